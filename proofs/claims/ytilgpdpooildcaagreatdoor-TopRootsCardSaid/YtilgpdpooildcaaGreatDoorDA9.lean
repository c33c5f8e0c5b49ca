/- Rules, plain laws and walks: FP P14 TP5 TP6 TP7 TP8 W1 W2 W3 PW WQ1 -/
import Derived.Test.YtilgpdpooildcaaGreatDoorDA8
import Derived.Test.YtilgpdpooildcaaGreatDoorDA2
import Derived.Test.YtilgpdpooildcaaGreatDoorDA3
import Derived.Test.YtilgpdpooildcaaGreatDoorDA5
import Derived.Test.YtilgpdpooildcaaGreatDoorDA7
import Derived.Test.YtilgpdpooildcaaGreatDoorDA1
import Derived.Test.YtilgpdpooildcaaGreatDoorDA6
namespace Go.Proofs.YtilgpdpooildcaaGreatDoor
set_option maxHeartbeats 8000000
open Go.RowKit
set_option maxRecDepth 100000
set_option linter.unusedVariables false
set_option linter.unusedSimpArgs false
theorem EK {P : Program} {ops : Array Oper} {Q : Exit → Act → World → Prop} {a : Act} {rest : List Oper} {o : Oper} {kf : FuncId} {vs : Array Value} {w0 w : World} {F0 F : Fz} {L : List Blk} {M : List RowP} {p : Prf} (S : St w0 F0 w F L M) (hw : Region.wanted o (yielded ops a.tmps) = true)
    (hr : (execOp a.eval o).run P w = .ok (.enter kf vs) w) (hc : Calls P kf vs w (xZ w F p))
    (h : ∀ v ka kc va vc w' F', St w0 F0 w' F' L (bZ 3 StpC StpC.mono 204 w0.heap.size v p.steps :: M) → Le F F' → Bs F' (.slice ka p.pair.1.length kc) p.pair.1 → Bs F' (.slice va p.pair.2.length vc) p.pair.2 → WL P ops Q rest (a.put o.dst (.tuple #[.agg #[.bool p.empty, v, .slice ka p.pair.1.length kc, .slice va p.pair.2.length vc], .int .i64 0])) w') : WL P ops Q (o :: rest) a w :=
  doC hw hr hc fun e w' ⟨v, ka, kc, va, vc, F', he, g, ho, h1, h2⟩ => ⟨_, he, h v ka kc va vc w' F' (S.addRow g ho) (g.le S.sat) h1 h2⟩
theorem LR {P : Program} {Q : Exit → Act → World → Prop} {F : Fz} {fuel : Nat} {listed : Array Bool} {a : Act} {w : World} {l : List Oper} {o1 o2 : Oper} (i j : Nat) (hr : Region.ready .any l.toArray listed = [i, j]) (hi : l[i]? = some o1) (hj : l[j]? = some o2)
    (h1 : WL P l.toArray (Exit.then (fun a' w' => Sat w' F ∧ Go.wpAnyH P .any l.toArray Q (fun w => Sat w F) fuel (listed.setIfInBounds i true) a' w') Q) [o1] a w)
    (h2 : WL P l.toArray (Exit.then (fun a' w' => Sat w' F ∧ Go.wpAnyH P .any l.toArray Q (fun w => Sat w F) fuel (listed.setIfInBounds j true) a' w') Q) [o2] a w) : HL P l.toArray Q F (fuel + 1) listed a w := by
 refine ⟨Go.wpAnyH_all hr (by simp) fun k hk => ?_⟩
 have key : ∀ (m : Nat) (o : Oper), l[m]? = some o → WL P l.toArray (Exit.then (fun a' w' => Sat w' F ∧ Go.wpAnyH P .any l.toArray Q (fun w => Sat w F) fuel (listed.setIfInBounds m true) a' w') Q) [o] a w → wpOp P l.toArray Q m (fun a' w' => Sat w' F ∧ Go.wpAnyH P .any l.toArray Q (fun w => Sat w F) fuel (listed.setIfInBounds m true) a' w') a w := by
  intro m o hm h
  have h1 := h.out
  unfold wpList at h1
  unfold wpOp
  have hi' : l.toArray[m]? = some o := by simpa using hm
  simp only [hi']
  split
  rename_i hw
  rw [if_pos hw] at h1
  rcases h1 with h1 | h1
  left
  refine Oper.wp_mono (fun a' w' hk => ?_) (Oper.wp_exit h1)
  exact hk
  exact .inr h1
  rename_i hw
  rw [if_neg hw] at h1
  exact h1
 rcases (by simpa using hk : k = i ∨ k = j) with rfl | rfl
 exact key _ _ hi h1
 exact key _ _ hj h2
def Kk (p q : Prf) (F : Fz) (u : Value) : Prop := ∃ x y, u = .tuple #[x, y, .int .i64 0] ∧ Jz F x p ∧ Jz F y q
theorem zL (F : Fz) (w : World) (v u z : Value) (l : aO) (n k : By) (hs : Sat w F) (hT : Tabs w) (hv : Tns F v l) (hn : Bs F u n) (hk : Bs F z k) (ok1 : ForestOk 60 l) (hnn : 1 ≤ n.length ∧ n.length ≤ 8) (hkk : 1 ≤ k.length ∧ k.length ≤ 16) :
    Calls Tryz.prog 88 #[v, u, z] w (dB w F (Kk (aV (bW l) n) (aV (bG l n) k))) := by
 have hn0 := kH hnn.1 hnn.2
 have hl8 := ok1.len
 obtain ⟨a, c, rfl, hc1, hc2⟩ := Sl.shape hv
 obtain ⟨a2, c2, rfl, _⟩ := hn.shape
 obtain ⟨a3, c3, rfl, _⟩ := hk.shape
 have S := St.start hs
 go_enter Tryz.func88, Tryz.ntmps88
 refine sk fun K1 hK1 => ?_
 refine sA S (sC _) fun n2 w3 S4 => ?_
 refine sA S4 (sC _) fun n5 w6 S7 => ?_
 refine dy ?_
 simp only [pq]
 refine wn hK1 ?_
 refine aE fun K8 hK8 => ?_
 refine sk fun K9 hK9 => ?_
 iterate 2 refine dx ?_
 refine aI (v := (iI 0)) S7 rfl (fn2 (RH _ _)) (oR _ _ _ _ l n (S7).sat hv hn ok1 hn0) (fun f4 e3 => ?_)
 refine dy ?_
 simp only [pq]
 refine wn hK9 ?_
 refine sk fun f5 d1 => ?_
 refine dx ?_
 refine dr bF (cG (b := false) rfl rfl (by decide)) ?_
 refine wn d1 ?_
 refine aF ?_
 refine aH ?_
 refine hK8 _ _ ?_
 refine sk fun f6 d2 => ?_
 refine aC ?_
 refine RU e3 rfl (cK (vs := #[(.slice a l.length c), (.slice a2 n.length c2)]) (iD rfl rfl) rfl (RJ _ _)) (tT _ _ _ _ l n (e3).sat hv hn ok1.rise (by omega)) ?_
 intro f7 f8 d3 c5
 obtain ⟨f9, g0, rfl, _⟩ := Sl.shape c5
 refine dx ?_
 refine EK d3 rfl (fn2 (TY _ _)) (EJ _ _ _ _ (bG l n) k (d3).sat (hT.at d3.gr.below) c5 hk (kF ok1 n) hkk) ?_
 intro g1 a8 a9 b0 b1 g2 g3 e4 c6 d4 d5
 simp only [pq]
 obtain ⟨c0, a1, rfl, g4, e9⟩ := (e4.own (i := 0) rfl).shape
 unfold maxLen at e9
 obtain ⟨g5, f0, a7, b7⟩ := St.freeze e4 (i := 0) rfl (Nat.le_refl _)
 have b7 : Stps _ (.slice c0 ((aV (bG l n) k).steps).length a1) ((aV (bG l n) k).steps) := b7
 refine aC ?_
 refine sW 0 f0 (eG) fun g6 d6 => ?_
 refine dy ?_
 refine wn d2 ?_
 refine aE fun g7 d7 => ?_
 refine sk fun g8 d8 => ?_
 refine dx ?_
 refine dr bF (cG (b := false) rfl rfl (by decide)) ?_
 simp only [pq]
 refine wn d8 ?_
 refine aF ?_
 refine aH ?_
 refine d7 _ _ ?_
 refine sk fun g9 d9 => ?_
 refine dx ?_
 refine aR d6 rfl (fn1 (TX _ _)) (nT PrC.mono (IV _ _ _ l (d6).sat (hT.at d6.gr.below) (hv.mono (c6.trans a7)) ok1)) ?_
 intro h0 h1 h2 e0 a5 e5
 obtain ⟨h3, h4, rfl, _⟩ := Sl.shape e5
 refine dx ?_
 refine EK e0 rfl (fn2 (TY _ _)) (EJ _ _ _ _ (bW l) n (e0).sat (hT.at e0.gr.below) e5 (hn.mono ((c6.trans a7).trans a5)) (IU ok1) ⟨hnn.1, by omega⟩) ?_
 intro h5 b2 b3 b4 b5 h6 h7 e6 a6 e1 e2
 simp only [pq]
 obtain ⟨c1, a4, rfl, h8, f1⟩ := (e6.own (i := 0) rfl).shape
 unfold maxLen at f1
 obtain ⟨h9, f2, a0, b9⟩ := St.freeze e6 (i := 0) rfl (Nat.le_refl _)
 have b9 : Stps _ (.slice c1 ((aV (bW l) n).steps).length a4) ((aV (bW l) n).steps) := b9
 refine aC ?_
 refine sW 1 f2 (eG) fun i0 f3 => ?_
 refine dy ?_
 refine wn d9 ?_
 refine aE fun i1 c4 => ?_
 refine jY f3 (by kernel_rfl) (fun i2 b6 => ?_)
 refine gT 2 rfl b6.sat ?_
 simp only [pq]
 refine LR 0 1 (by kernel_rfl) rfl rfl ?_ ?_
 refine dR b6 1 Tryz.underlying52 (eG) ?_
 refine aG (cW b6.sat ?_)
 refine LR 1 3 (by kernel_rfl) rfl rfl ?_ ?_
 refine dR b6 0 Tryz.underlying52 (eG) ?_
 refine aG (cW b6.sat ?_)
 refine eB 3 (by kernel_rfl) rfl ?_
 refine sW 1 b6 (eG) fun i3 e7 => ?_
 simp only [pq]
 refine aG (cW e7.sat ?_)
 refine eB 4 (by kernel_rfl) rfl ?_
 refine sW 0 e7 (eG) fun i4 c7 => ?_
 refine aG (cW c7.sat ?_)
 refine kI 5 rfl c7.sat ?_
 simp only [pq]
 refine kA (by kernel_rfl) ?_
 refine c4 _ _ ?_
 refine aP ?_
 try simp only [xt]
 refine bR (JR rfl ⟨_, rfl, jD (cs := [(.bool (aV (bW l) n).empty), (.slice c1 ((aV (bW l) n).steps).length a4), (.slice b2 (aV (bW l) n).pair.1.length b3), (.slice b4 (aV (bW l) n).pair.2.length b5)]) Tryz.underlying52 rfl (eG) (St.range c7 (i := 1) rfl 0 [(.bool (aV (bW l) n).empty), (.slice c1 ((aV (bW l) n).steps).length a4), (.slice b2 (aV (bW l) n).pair.1.length b3), (.slice b4 (aV (bW l) n).pair.2.length b5)] (dC 0 rfl))⟩ ⟨_, rfl, jD (cs := [(.bool (aV (bG l n) k).empty), (.slice c0 ((aV (bG l n) k).steps).length a1), (.slice a8 (aV (bG l n) k).pair.1.length a9), (.slice b0 (aV (bG l n) k).pair.2.length b1)]) Tryz.underlying52 rfl (eG) (St.range c7 (i := 0) rfl 0 [(.bool (aV (bG l n) k).empty), (.slice c0 ((aV (bG l n) k).steps).length a1), (.slice a8 (aV (bG l n) k).pair.1.length a9), (.slice b0 (aV (bG l n) k).pair.2.length b1)] (dC 0 rfl))⟩ (gD rfl)) ?_
 exact ⟨_, _, rfl, c7.gr, _, _, rfl, ⟨_, _, _, _, _, _, rfl, b9, (e1.mono a0), (e2.mono a0)⟩, ⟨_, _, _, _, _, _, rfl, (b7.mono ((a5.trans a6).trans a0)), (d4.mono (((a7.trans a5).trans a6).trans a0)), (d5.mono (((a7.trans a5).trans a6).trans a0))⟩⟩
 refine sW 1 b6 (eG) fun i5 d0 => ?_
 refine aG (cW d0.sat ?_)
 refine eB 1 (by kernel_rfl) rfl ?_
 refine dR d0 0 Tryz.underlying52 (eG) ?_
 refine aG (cW d0.sat ?_)
 refine eB 4 (by kernel_rfl) rfl ?_
 refine sW 0 d0 (eG) fun i6 c8 => ?_
 simp only [pq]
 refine aG (cW c8.sat ?_)
 refine kI 5 rfl c8.sat ?_
 simp only [pq]
 refine kA (by kernel_rfl) ?_
 refine c4 _ _ ?_
 refine aP ?_
 try simp only [xt]
 refine bR (JR rfl ⟨_, rfl, jD (cs := [(.bool (aV (bW l) n).empty), (.slice c1 ((aV (bW l) n).steps).length a4), (.slice b2 (aV (bW l) n).pair.1.length b3), (.slice b4 (aV (bW l) n).pair.2.length b5)]) Tryz.underlying52 rfl (eG) (St.range c8 (i := 1) rfl 0 [(.bool (aV (bW l) n).empty), (.slice c1 ((aV (bW l) n).steps).length a4), (.slice b2 (aV (bW l) n).pair.1.length b3), (.slice b4 (aV (bW l) n).pair.2.length b5)] (dC 0 rfl))⟩ ⟨_, rfl, jD (cs := [(.bool (aV (bG l n) k).empty), (.slice c0 ((aV (bG l n) k).steps).length a1), (.slice a8 (aV (bG l n) k).pair.1.length a9), (.slice b0 (aV (bG l n) k).pair.2.length b1)]) Tryz.underlying52 rfl (eG) (St.range c8 (i := 0) rfl 0 [(.bool (aV (bG l n) k).empty), (.slice c0 ((aV (bG l n) k).steps).length a1), (.slice a8 (aV (bG l n) k).pair.1.length a9), (.slice b0 (aV (bG l n) k).pair.2.length b1)] (dC 0 rfl))⟩ (gD rfl)) ?_
 exact ⟨_, _, rfl, c8.gr, _, _, rfl, ⟨_, _, _, _, _, _, rfl, b9, (e1.mono a0), (e2.mono a0)⟩, ⟨_, _, _, _, _, _, rfl, (b7.mono ((a5.trans a6).trans a0)), (d4.mono (((a7.trans a5).trans a6).trans a0)), (d5.mono (((a7.trans a5).trans a6).trans a0))⟩⟩
 refine dR b6 0 Tryz.underlying52 (eG) ?_
 refine aG (cW b6.sat ?_)
 refine eB 0 (by kernel_rfl) rfl ?_
 refine dR b6 1 Tryz.underlying52 (eG) ?_
 refine aG (cW b6.sat ?_)
 refine eB 3 (by kernel_rfl) rfl ?_
 refine sW 1 b6 (eG) fun i7 e8 => ?_
 simp only [pq]
 refine aG (cW e8.sat ?_)
 refine eB 4 (by kernel_rfl) rfl ?_
 refine sW 0 e8 (eG) fun i8 c9 => ?_
 refine aG (cW c9.sat ?_)
 refine kI 5 rfl c9.sat ?_
 simp only [pq]
 refine kA (by kernel_rfl) ?_
 refine c4 _ _ ?_
 refine aP ?_
 try simp only [xt]
 refine bR (JR rfl ⟨_, rfl, jD (cs := [(.bool (aV (bW l) n).empty), (.slice c1 ((aV (bW l) n).steps).length a4), (.slice b2 (aV (bW l) n).pair.1.length b3), (.slice b4 (aV (bW l) n).pair.2.length b5)]) Tryz.underlying52 rfl (eG) (St.range c9 (i := 1) rfl 0 [(.bool (aV (bW l) n).empty), (.slice c1 ((aV (bW l) n).steps).length a4), (.slice b2 (aV (bW l) n).pair.1.length b3), (.slice b4 (aV (bW l) n).pair.2.length b5)] (dC 0 rfl))⟩ ⟨_, rfl, jD (cs := [(.bool (aV (bG l n) k).empty), (.slice c0 ((aV (bG l n) k).steps).length a1), (.slice a8 (aV (bG l n) k).pair.1.length a9), (.slice b0 (aV (bG l n) k).pair.2.length b1)]) Tryz.underlying52 rfl (eG) (St.range c9 (i := 0) rfl 0 [(.bool (aV (bG l n) k).empty), (.slice c0 ((aV (bG l n) k).steps).length a1), (.slice a8 (aV (bG l n) k).pair.1.length a9), (.slice b0 (aV (bG l n) k).pair.2.length b1)] (dC 0 rfl))⟩ (gD rfl)) ?_
 exact ⟨_, _, rfl, c9.gr, _, _, rfl, ⟨_, _, _, _, _, _, rfl, b9, (e1.mono a0), (e2.mono a0)⟩, ⟨_, _, _, _, _, _, rfl, (b7.mono ((a5.trans a6).trans a0)), (d4.mono (((a7.trans a5).trans a6).trans a0)), (d5.mono (((a7.trans a5).trans a6).trans a0))⟩⟩

structure Tp where
  data : By
  synced : Nat
def iJ (m : Cm) : By := b8 ((eQ m.turn m.writes).length / 256) :: b8 (eQ m.turn m.writes).length :: eQ m.turn m.writes
def bU (m : Cm) : By := iJ m ++ (vI (iJ m)).take 4
def dM (cs : List Cm) : By := cs.flatMap bU
def qD (r : By) (k : Nat) : Option (Cm × Nat) :=
  if r.length < 2 then none else
  if 4000 < 2 + (r.getD 0 0).toNat * 256 + (r.getD 1 0).toNat ∨ r.length < 2 + (r.getD 0 0).toNat * 256 + (r.getD 1 0).toNat + 4 then none else
  if (vI (r.take (2 + (r.getD 0 0).toNat * 256 + (r.getD 1 0).toNat))).take 4 ≠ (r.drop (2 + (r.getD 0 0).toNat * 256 + (r.getD 1 0).toNat)).take 4 then none else
  if As ((r.take (2 + (r.getD 0 0).toNat * 256 + (r.getD 1 0).toNat)).drop 2) ≠ 0 ∨ (Gc ((r.take (2 + (r.getD 0 0).toNat * 256 + (r.getD 1 0).toNat)).drop 2)).turn ≠ k + 1 then none else
  some (Gc ((r.take (2 + (r.getD 0 0).toNat * 256 + (r.getD 1 0).toNat)).drop 2), 2 + (r.getD 0 0).toNat * 256 + (r.getD 1 0).toNat + 4)
def GN : Nat → By → Nat → List Cm × Nat
  | 0, _, _ => ([], 0)
  | f + 1, r, k => match qD r k with
    | none => ([], 0)
    | some p => (p.1 :: (GN f (r.drop p.2) (k + 1)).1, p.2 + (GN f (r.drop p.2) (k + 1)).2)
def Ja (d : By) : List Cm × Nat := GN d.length d 0
theorem XM {r : By} {k : Nat} (h : qD r k = none) (f : Nat) : GN f r k = ([], 0) := by
 cases f with
 | zero => rfl
 | succ f => rw [GN, h]
theorem XN {r : By} {k f : Nat} {p : Cm × Nat} (h : qD r k = some p) : GN (f + 1) r k = (p.1 :: (GN f (r.drop p.2) (k + 1)).1, p.2 + (GN f (r.drop p.2) (k + 1)).2) := by rw [GN, h]
theorem mB {m : Cm} (hm : CmOk m) : (iJ m).length = 2 + (eQ m.turn m.writes).length ∧ (iJ m).length ≤ 596 ∧ 6 ≤ (iJ m).length := by
 have := IQ hm
 have h : (iJ m).length = 2 + (eQ m.turn m.writes).length := by simp [iJ]; omega
 omega
theorem mC {m : Cm} (hm : CmOk m) : (bU m).length = 6 + (eQ m.turn m.writes).length ∧ (bU m).length = (iJ m).length + 4 := by
 have := mB hm
 have : (bU m).length = (iJ m).length + 4 := by
  unfold bU
  rw [List.length_append, List.length_take, tG]
  omega
 omega
theorem PN {m : Cm} (hm : CmOk m) {t : By} : 2 + (((bU m) ++ t).getD 0 0).toNat * 256 + (((bU m) ++ t).getD 1 0).toNat = (iJ m).length := by
 have h1 := IQ hm
 have h2 := mB hm
 have e0 : ((bU m) ++ t).getD 0 0 = b8 ((eQ m.turn m.writes).length / 256) := by simp [bU, iJ]
 have e1 : ((bU m) ++ t).getD 1 0 = b8 (eQ m.turn m.writes).length := by simp [bU, iJ]
 rw [e0, e1, mM (by omega)]
 have : (b8 (eQ m.turn m.writes).length).toNat = (eQ m.turn m.writes).length % 256 := by simp [b8]
 omega
theorem PO {m : Cm} (hm : CmOk m) {t : By} {k : Nat} : qD (bU m ++ t) k = if m.turn = k + 1 then some (m, (bU m).length) else none := by
 have h2 := mB hm
 have h3 := mC hm
 have hl : (bU m ++ t).length = (iJ m).length + 4 + t.length := by rw [List.length_append]; omega
 have ht : (bU m ++ t).take (iJ m).length = iJ m := by
  rw [show bU m = iJ m ++ (vI (iJ m)).take 4 from rfl, List.append_assoc, List.take_left']
  rfl
 have hd : ((bU m ++ t).drop (iJ m).length).take 4 = (vI (iJ m)).take 4 := by
  rw [show bU m = iJ m ++ (vI (iJ m)).take 4 from rfl, List.append_assoc, List.drop_left' rfl, List.take_append_of_le_length (by rw [List.length_take, tG]; omega), List.take_take]
  simp
 have hb : (iJ m).drop 2 = eQ m.turn m.writes := rfl
 obtain ⟨d1, d2⟩ := At hm
 unfold qD
 rw [PN hm, if_neg (by omega), if_neg (by omega), ht, hd, if_neg (by simp), hb, d1, d2]
 by_cases h : m.turn = k + 1
 ·rw [if_neg (by simp [h]), if_pos h, h3.2]
 ·rw [if_pos (.inr h), if_neg h]
theorem SL {m : Cm} (hm : CmOk m) {n k : Nat} (hn : n < (bU m).length) : qD ((bU m).take n) k = none := by
 have h2 := mB hm
 have h3 := mC hm
 unfold qD
 have hl : ((bU m).take n).length = n := by rw [List.length_take]; omega
 rw [hl]
 by_cases h : n < 2
 ·rw [if_pos h]
 ·rw [if_neg h]
  have e : 2 + (((bU m).take n).getD 0 0).toNat * 256 + (((bU m).take n).getD 1 0).toNat = (iJ m).length := by
   rw [← PN hm (t := [])]
   have q : ∀ i, i < 2 → ((bU m).take n).getD i 0 = (bU m ++ []).getD i 0 := by
    intro i hi
    rw [List.append_nil, List.getD_eq_getElem?_getD, List.getD_eq_getElem?_getD, List.getElem?_take_of_lt (by omega)]
   rw [q 0 (by omega), q 1 (by omega)]
  rw [e, if_pos (.inr (by omega))]
theorem yA (a b : List Cm) : dM (a ++ b) = dM a ++ dM b := by simp [dM]
theorem Bo : ∀ (cs : List Cm) (f k : Nat) (t : By), (∀ c ∈ cs, CmOk c) → (∀ (i : Nat) (h : i < cs.length), cs[i].turn = k + i + 1) → qD t (k + cs.length) = none → (dM cs ++ t).length ≤ f → GN f (dM cs ++ t) k = (cs, (dM cs).length)
  | [], f, k, t, _, _, ht, _ => by
    rw [show dM ([] : List Cm) ++ t = t from rfl, XM (by simpa using ht)]
    rfl
  | c :: cs, f, k, t, hok, htn, ht, hf => by
    have hc := hok c (by simp)
    have h3 := mC hc
    have hb := mB hc
    have e : dM (c :: cs) ++ t = bU c ++ (dM cs ++ t) := by simp [dM]
    have ht0 : c.turn = k + 1 := by have := htn 0 (by simp); simpa using this
    have hch := PO hc (t := dM cs ++ t) (k := k)
    rw [if_pos ht0] at hch
    rw [e] at hf ⊢
    match f, hf with
    | 0, hf => rw [List.length_append] at hf; omega
    | f + 1, hf =>
      rw [XN hch]
      simp only
      rw [List.drop_left' rfl, Bo cs f (k + 1) t (fun x hx => hok x (by simp [hx])) (fun i hi => by have := htn (i + 1) (by simpa using hi); simp at this; omega) (by rw [show k + 1 + cs.length = k + (c :: cs).length from by simp; omega]; exact ht) (by rw [List.length_append] at hf; omega)]
      refine Prod.ext rfl ?_
      simp [dM]
def fR : List Cm → Nat → Nat
  | [], _ => 0
  | c :: cs, n => if (bU c).length ≤ n then 1 + fR cs (n - (bU c).length) else 0
theorem zM : ∀ (cs : List Cm) (n : Nat), fR cs n ≤ cs.length
  | [], _ => by simp [fR]
  | c :: cs, n => by
    unfold fR
    split
    · have := zM cs (n - (bU c).length); simp; omega
    · simp
theorem zN : ∀ (cs : List Cm) (n k : Nat), (∀ c ∈ cs, CmOk c) → n ≤ (dM cs).length → ∃ t, (dM cs).take n = dM (cs.take (fR cs n)) ++ t ∧ (∀ k, qD t k = none) ∧ (t = [] ∨ fR cs n < cs.length) ∧ (n = (dM cs).length → fR cs n = cs.length)
  | [], n, k, _, _ => ⟨[], by simp [dM], fun k => by unfold qD; rw [if_pos (by simp)], .inl rfl, fun _ => rfl⟩
  | c :: cs, n, k, hok, hn => by
    have hc := hok c (by simp)
    have h3 := mC hc
    have e : dM (c :: cs) = bU c ++ dM cs := by simp [dM]
    rw [e, List.length_append] at hn
    by_cases hw : (bU c).length ≤ n
    · obtain ⟨t, h1, h2, h4, h5⟩ := zN cs (n - (bU c).length) k (fun x hx => hok x (by simp [hx])) (by omega)
      have ew : fR (c :: cs) n = fR cs (n - (bU c).length) + 1 := by rw [fR, if_pos hw]; omega
      refine ⟨t, ?_, h2, ?_, fun h => ?_⟩
      · rw [e, ew, List.take_succ_cons, show n = (bU c).length + (n - (bU c).length) from by omega, List.take_append]
        simp only [Nat.add_sub_cancel_left]
        rw [List.take_of_length_le (by omega), h1]
        simp [dM]
      · rw [ew, List.length_cons]
        rcases h4 with h4 | h4
        · exact .inl h4
        · exact .inr (by omega)
      · rw [ew, List.length_cons, h5 (by rw [e, List.length_append] at h; omega)]
    · have ew : fR (c :: cs) n = 0 := by rw [fR, if_neg hw]
      refine ⟨(bU c).take n, ?_, fun k => SL hc (by omega), ?_, fun h => ?_⟩
      · rw [e, ew, List.take_append_of_le_length (by omega)]
        simp [dM]
      · rw [ew]; exact .inr (by simp)
      · rw [e, List.length_append] at h; omega
theorem Bp {m : Nat} {cs : List Cm} (hh : HistOk m cs) {n : Nat} (hn : n ≤ (dM cs).length) : Ja ((dM cs).take n) = (cs.take (fR cs n), (dM (cs.take (fR cs n))).length) := by
 obtain ⟨t, h1, h2, _, _⟩ := zN cs n 0 hh.ok hn
 unfold Ja
 rw [h1]
 refine Bo _ _ 0 t (fun c hc => hh.ok c (List.mem_of_mem_take hc)) (fun i hi => ?_) (h2 _) (Nat.le_refl _)
 rw [List.getElem_take]
 have := hh.turn i (by rw [List.length_take] at hi; omega)
 omega
theorem yB {cs : List Cm} (hok : ∀ c ∈ cs, CmOk c) : (dM cs).length ≤ 600 * cs.length := by
 induction cs with
 | nil => simp [dM]
 | cons c cs ih =>
  have h3 := mC (hok c (by simp))
  have hb := mB (hok c (by simp))
  have := ih (fun x hx => hok x (by simp [hx]))
  have e : dM (c :: cs) = bU c ++ dM cs := by simp [dM]
  rw [e, List.length_append, List.length_cons]
  omega
theorem IW : ∀ (cs : List Cm) (n : Nat), (dM (cs.take (fR cs n))).length ≤ n
  | [], n => by simp [dM, fR]
  | c :: cs, n => by
    unfold fR
    split
    · rename_i h
      have := IW cs (n - (bU c).length)
      rw [Nat.add_comm, List.take_succ_cons, show dM (c :: cs.take (fR cs (n - (bU c).length))) = bU c ++ dM (cs.take (fR cs (n - (bU c).length))) from by simp [dM], List.length_append]
      omega
    · simp [dM]
theorem PP : ∀ (cs : List Cm) (k n : Nat), k ≤ cs.length → (dM (cs.take k)).length ≤ n → k ≤ fR cs n
  | _, 0, _, _, _ => Nat.zero_le _
  | [], k + 1, _, h, _ => by simp at h
  | c :: cs, k + 1, n, hk, h => by
    rw [List.take_succ_cons, show dM (c :: cs.take k) = bU c ++ dM (cs.take k) from by simp [dM], List.length_append] at h
    rw [fR, if_pos (by omega)]
    have := PP cs k (n - (bU c).length) (by simpa using hk) (by omega)
    omega
theorem PQ (F : Fz) (w : World) (v : Value) (l : List UInt8) (hs : Sat w F) (hv : Bs F v l) (hm : l.length ≤ 100000) :
    Calls Tryz.prog 45 #[v] w (rV w F 1 ByC 5 l) := by
 obtain ⟨a, c, rfl, hlc, hcm⟩ := hv.shape
 obtain ⟨i, hi, hz0, hz1, hz2⟩ := info_parts rK
 have hr := hv
 unfold Bs at hr
 have hnil := Lib.run_eql_slice_nil (P := Tryz.prog) w 25 5 a l.length c 0 0 Tryz.underlying25
 cases a with
 | none =>
  have hl : l = [] := by
   obtain ⟨a', c', h1, _, _, h4, _⟩ := hr
   cases h1
   exact List.eq_nil_of_length_eq_zero (h4 rfl).1
  subst hl
  simp only [List.length_nil] at hnil
  go_enter Tryz.func45, Tryz.ntmps45
  go_wp2_with fail
  go_ret
  exact ⟨_, F, rfl, Gr.refl hs, Own.nil _ _⟩
 | some a =>
  have hown := World.ownsRow_lit (base := w.heap.size) (e := 5) (size := 1) w #[] 0 (Nat.le_refl _) (Nat.zero_le _) rfl
  have hsa := hs.alloc (.cells #[] 5)
  go_enter Tryz.func45, Tryz.ntmps45
  go_wp2_with (at_builtin; go_loud (refine pF rfl _ _ 25 rfl w.heap.size 5 i (.int .u8 0) 1 1 Tryz.underlying25 hi hz0 hz1 hz2 rfl (by decide) rfl hown rfl hsa hr (by simp) (BV _) (by unfold maxLen; omega) (by omega) (by simp) ?_))
  intro v1 w1 hown1 hg _
  have hb : Below w.heap.size w w1 := ((Below.refl _ _).alloc (Nat.le_refl _) _).grown hg (by simp) (fun g hg' => (hown.lt g hg').1)
  clear hg hown
  go_wp2_with fail
  go_ret
  refine ⟨_, F, rfl, Gr.of_below hs hb, ⟨l.map fun b => [bv b], ?_, sH F l, by simp⟩, fun g hg => hs.out (hown1.lt g hg).1⟩
  rw [sG]
  simpa using hown1
def TpV (F : Fz) (v : Value) (t : Tp) : Prop := ∃ a c, v = .agg #[.slice a t.data.length c, .int .i64 (t.synced : Nat)] ∧ Bs F (.slice a t.data.length c) t.data
theorem TpV.mono {F F' : Fz} {v : Value} {t : Tp} (h : TpV F v t) (hl : Le F F') : TpV F' v t := by
 obtain ⟨a, c, h1, h2⟩ := h; exact ⟨a, c, h1, h2.mono hl⟩
def VA (w : World) (F : Fz) (t : Tp) (e : Ending) (w' : World) : Prop := ∃ v F', e = .returned (.tuple #[.agg #[v, .int .i64 (t.synced : Nat)], .bool true]) ∧ Gr w F w' F' ∧ Own 1 ByC 5 w.heap.size w' F' v t.data
theorem IX {P : Program} {ops : Array Oper} {Q : Exit → Act → World → Prop} {a : Act} {rest : List Oper} {o : Oper} {kf : FuncId} {vs : Array Value} {w0 w : World} {F0 F : Fz} {L : List Blk} {M : List RowP} {t : Tp} (S : St w0 F0 w F L M) (hw : Region.wanted o (yielded ops a.tmps) = true)
    (hr : (execOp a.eval o).run P w = .ok (.enter kf vs) w) (hc : Calls P kf vs w (VA w F t))
    (h : ∀ v w' F', St w0 F0 w' F' L (bZ 1 ByC ByC.mono 5 w0.heap.size v t.data :: M) → Le F F' → WL P ops Q rest (a.put o.dst (.tuple #[.agg #[v, .int .i64 (t.synced : Nat)], .bool true])) w') : WL P ops Q (o :: rest) a w :=
  doC hw hr hc fun e w' ⟨v, F', he, g, ho⟩ => ⟨_, he, h v w' F' (S.addRow g ho) (g.le S.sat)⟩
structure TpOk (n : Nat) (t : Tp) : Prop where
  len : t.data.length ≤ n
  syn : t.synced ≤ t.data.length
def Jb (t : Tp) (e : Int) (F : Fz) (u : Value) : Prop := ∃ v, u = .tuple #[v, .int .i64 e] ∧ TpV F v t
def Bq (w : World) (F G : Fz) : Fz := fun b => if b < w.heap.size then F b else G b
theorem Gr.mix {w w' : World} {F F1 G : Fz} (hl : Le F F1) (h : Gr w F1 w' G) (hs : Sat w F) : Gr w F w' (Bq w F G) := by
 refine ⟨h.below, fun b hb => by unfold Bq; rw [if_pos hb], fun b o hb => ?_⟩
 unfold Bq at hb
 split at hb
 rename_i hlt
 exact h.sat b o (by rw [h.old b hlt]; exact hl b o hb)
 exact h.sat b o hb
theorem ByC.mix {base E : Nat} {w w' : World} {F G : Fz} {v : Value} {l : By} (h : Own 1 ByC E base w' G v l) (hb : w.heap.size ≤ base) : Own 1 ByC E base w' (Bq w F G) v l := by
 obtain ⟨el, h1, h2, h3⟩ := h.ex
 refine ⟨⟨el, h1, h2.imp fun x p hx => hx, h3⟩, fun g hg => ?_⟩
 unfold Bq
 rw [if_neg (by have := (h.lt g hg).1; omega)]
 exact h.out g hg
def GivesSum (w : World) (F : Fz) (b : By) (e : Ending) (w' : World) : Prop := ∃ v F', e = .returned (.tuple #[v, .int .i64 0]) ∧ Gr w F w' F' ∧ Own 1 ByC 5 w.heap.size w' F' v (vI b)
theorem GivesSum.mix {w w' : World} {F F1 : Fz} {b : By} {e : Ending} (hs : Sat w F) (hl : Le F F1) (h : GivesSum w F1 b e w') : GivesSum w F b e w' := by
 obtain ⟨v, F', he, g, ho⟩ := h
 exact ⟨v, _, he, g.mix hl hs, ByC.mix ho (Nat.le_refl _)⟩
theorem SM {P : Program} {ops : Array Oper} {Q : Exit → Act → World → Prop} {a : Act} {rest : List Oper} {o : Oper} {kf : FuncId} {vs : Array Value} {w0 w : World} {F0 F F1 : Fz} {L : List Blk} {M : List RowP} {b : By} (S : St w0 F0 w F L M) (hl : Le F F1) (hw : Region.wanted o (yielded ops a.tmps) = true)
    (hr : (execOp a.eval o).run P w = .ok (.enter kf vs) w) (hc : Calls P kf vs w (GivesSum w F1 b))
    (h : ∀ v w' F', St w0 F0 w' F' L (bZ 1 ByC ByC.mono 5 w0.heap.size v (vI b) :: M) → Le F F' → WL P ops Q rest (a.put o.dst (.tuple #[v, .int .i64 0])) w') : WL P ops Q (o :: rest) a w :=
  doC hw hr hc fun e w' hg => by
    obtain ⟨v, F', he, g, ho⟩ := GivesSum.mix S.sat hl hg
    exact ⟨_, he, h v w' F' (S.addRow g ho) (g.le S.sat)⟩
theorem Gq (F : Fz) (w : World) (v : Value) (b : By) (hs : Sat w F) (hT : Tabs w) (hb : Bs F v b) (hn : b.length ≤ 4000) :
    Calls Tryz.prog 96 #[v] w (GivesSum w F b) := by
 obtain ⟨x, y, rfl, hc1', hc2'⟩ := hb.shape
 unfold maxLen at hc2'
 have S := St.start hs
 go_enter Tryz.func96, Tryz.ntmps96
 refine sk fun K1 hK1 => ?_
 iterate 2 refine dy ?_
 refine wn hK1 ?_
 refine aE fun K2 hK2 => ?_
 refine sk fun K3 hK3 => ?_
 refine aC ?_
 refine mO ?_
 simp only [pq]
 refine wn hK3 ?_
 refine aF ?_
 refine aH ?_
 refine hK2 _ _ ?_
 refine sk fun K4 hK4 => ?_
 refine dx ?_
 refine oJ ByC.mono S rfl (fn1 (UF _ _)) (UY _ _ _ b (S).sat (hT.at S.gr.below) hb (by omega)) ?_
 intro v9 w5 F7 S6 le8
 refine aC ?_
 refine wn hK4 ?_
 refine aP ?_
 try simp only [xt]
 refine bR (cC rfl (gD rfl) (gD rfl)) ?_
 exact ⟨_, _, rfl, S6.gr, St.own (i := 0) S6 rfl⟩
theorem IY (F : Fz) (w : World) (v : Value) (t : Tp) (hs : Sat w F) (hv : TpV F v t) (ok : TpOk 100000 t) :
    Calls Tryz.prog 95 #[v] w (VA w F t) := by
 obtain ⟨x, y, rfl, hv⟩ := hv
 have h1 := ok.len
 have h2 := ok.syn
 have S := St.start hs
 go_enter Tryz.func95, Tryz.ntmps95
 refine sk fun K1 hK1 => ?_
 refine bD S (v := fun n => .pointer (aA n 0)) rfl (cB (v := (.agg #[(.slice x t.data.length y), (nI t.synced)])) rfl) (fun n2 w3 S4 => ?_)
 refine sA S4 (qV _) fun n5 w6 S7 => ?_
 refine dy ?_
 refine wn hK1 ?_
 refine aE fun K8 hK8 => ?_
 refine sk fun K9 hK9 => ?_
 refine aC ?_
 refine eT ?_
 refine aC ?_
 refine mO ?_
 refine aC ?_
 refine mO ?_
 refine dp ?_
 refine wn hK9 ?_
 refine aF ?_
 refine aH ?_
 refine hK8 _ _ ?_
 refine aE fun b3 a6 => ?_
 obtain ⟨b1, a7, a3⟩ := St.freezeBlk S7 (i := 1) rfl
 generalize addF F w6 n2 = b4 at *
 refine jY b1 (by kernel_rfl) (fun b5 a2 => ?_)
 refine dJ 0 rfl _ a2.sat (fun _ _ => ef (DF _ _)) ?_
 simp only [pq]
 refine dJ 1 rfl _ a2.sat (fun _ a8 => aD rfl (aW (bI _) (St.fz (St.start a8) (a3 0 _ rfl)))) ?_
 simp only [pq]
 refine dJ 3 rfl _ a2.sat (fun _ _ => ef (OD _ _)) ?_
 simp only [pq]
 refine dJ 4 rfl _ a2.sat (fun _ a9 => aD rfl (aW (bN _) (St.fz (St.start a9) (a3 1 _ rfl)))) ?_
 simp only [pq]
 refine eB 2 (by kernel_rfl) rfl ?_
 refine oJ ByC.mono a2 rfl (fn1 (gN _ _)) (PQ _ _ _ t.data (a2).sat (hv.mono a7) (by omega)) ?_
 intro b6 b7 b9 a5 a0
 simp only [pq]
 obtain ⟨b0, a1, rfl, c0, b2⟩ := (a5.own (i := 0) rfl).shape
 unfold maxLen at b2
 refine aG (cW (Sat.le a5.sat a0) ?_)
 refine dJ 5 rfl (.agg #[(.slice b0 t.data.length a1), (nI t.synced)]) (Sat.le a5.sat a0) (fun _ _ => aL (ps := #[(0, (.slice b0 t.data.length a1)), (1, (nI t.synced))]) (fY rfl rfl) (by kernel_rfl)) ?_
 simp only [pq]
 refine eB 6 (by kernel_rfl) rfl ?_
 refine sW 0 a5 (fH) fun c1 a4 => ?_
 refine aG (cW (Sat.le a4.sat a0) ?_)
 refine kI 7 rfl (Sat.le a4.sat a0) ?_
 simp only [pq]
 refine kA (by kernel_rfl) ?_
 refine a6 _ _ ?_
 refine aP ?_
 try simp only [xt]
 refine bR (dN rfl ⟨_, rfl, lR a4 0 Tryz.underlying108 (fH)⟩ (gD rfl)) ?_
 exact ⟨_, _, rfl, a4.gr, St.own (i := 0) a4 rfl⟩
theorem XO (F : Fz) (w : World) (v : Value) (t : Tp) (hs : Sat w F) (hv : TpV F v t) (ok : TpOk 100000 t) :
    Calls Tryz.prog 82 #[v] w (dB w F (Jb ⟨t.data, t.data.length⟩ 0)) := by
 obtain ⟨x, y, rfl, hv⟩ := hv
 have h1 := ok.len
 have h2 := ok.syn
 have S := St.start hs
 go_enter Tryz.func82, Tryz.ntmps82
 refine sk fun K1 hK1 => ?_
 refine bD S (v := fun n => .pointer (aA n 0)) rfl (cB (v := (.agg #[(.slice x t.data.length y), (nI t.synced)])) rfl) (fun n2 w3 S4 => ?_)
 refine sA S4 (qV _) fun n5 w6 S7 => ?_
 refine dy ?_
 refine wn hK1 ?_
 refine sk fun K8 hK8 => ?_
 refine dR S7 1 Tryz.underlying108 (fH) ?_
 simp only [pq]
 refine IX S7 rfl (fn1 (Ad _ _)) (IY _ _ _ t (S7).sat ⟨_, _, rfl, hv⟩ (⟨by omega, ok.syn⟩)) ?_
 intro v9 b7 b9 a6 a9
 simp only [pq]
 obtain ⟨b0, a1, rfl, c0, b1⟩ := (a6.own (i := 0) rfl).shape
 unfold maxLen at b1
 refine aC ?_
 refine sA a6 (qV _) fun c1 c2 b2 => ?_
 refine sW 0 b2 (fH) fun c3 b3 => ?_
 refine dy ?_
 simp only [pq]
 refine wn hK8 ?_
 refine aE fun c4 a2 => ?_
 refine sk fun c5 a3 => ?_
 refine aC ?_
 refine wn a3 ?_
 refine aF ?_
 refine aH ?_
 refine a2 _ _ ?_
 refine aE fun c6 a4 => ?_
 obtain ⟨c7, b4, b5, a0⟩ := St.freeze b3 (i := 0) rfl (Nat.le_refl _)
 have a0 : Bys _ (.slice b0 t.data.length a1) t.data := a0
 have b6 := eU a0
 refine aB ?_
 refine aC ?_
 refine sW 0 b4 (rX) fun c8 a7 => ?_
 refine wlK a4 ?_
 refine sk fun c9 a5 => ?_
 refine dR a7 0 Tryz.underlying108 (fH) ?_
 simp only [pq]
 refine sW 1 a7 (fH) fun d0 a8 => ?_
 refine dy ?_
 refine wn a5 ?_
 refine aP ?_
 try simp only [xt]
 refine bR (dN rfl ⟨_, rfl, lR a8 1 Tryz.underlying108 (fH)⟩ (gD rfl)) ?_
 exact ⟨_, _, rfl, a8.gr, _, rfl, _, _, rfl, b6⟩
def mD (t : Tp) (k : Nat) : Nat := t.synced + min k (t.data.length - t.synced)
theorem PR (F : Fz) (w : World) (v u : Value) (t : Tp) (m : Cm) (hs : Sat w F) (hT : Tabs w) (hv : TpV F v t) (hc : CmV F u m) (ok : TpOk 90000 t) (hm : CmOk m) :
    Calls Tryz.prog 110 #[v, u] w (dB w F (Jb ⟨t.data ++ bU m, t.synced⟩ 0)) := by
 obtain ⟨x, y, rfl, hv⟩ := hv
 have h1' := ok.len
 have h2' := ok.syn
 obtain ⟨x1, y1, rfl, h1⟩ := hc
 obtain ⟨_, _, e1, q2, q3⟩ := Sl.shape h1
 injection e1 with _ _ e1
 subst e1
 unfold maxLen at q3
 obtain ⟨i5, hi5, hz5, hs5, hb5⟩ := info_parts rK
 have S := St.start hs
 go_enter Tryz.func110, Tryz.ntmps110
 refine sk fun K1 hK1 => ?_
 refine bD S (v := fun n => .pointer (aA n 0)) rfl (cB (v := (.agg #[(.slice x t.data.length y), (nI t.synced)])) rfl) (fun n2 w3 S4 => ?_)
 refine bD S4 (v := fun n => .pointer (aA n 0)) rfl (cB (v := (.agg #[(nI m.turn), (.slice x1 m.writes.length y1)])) rfl) (fun n5 w6 S7 => ?_)
 simp only [pq]
 refine sA S7 (qV _) fun n8 w9 a9 => ?_
 refine dy ?_
 refine wn hK1 ?_
 refine sk fun h3 b0 => ?_
 refine dR a9 2 Tryz.underlying108 (fH) ?_
 simp only [pq]
 refine IX a9 rfl (fn1 (Ad _ _)) (IY _ _ _ t (a9).sat ⟨_, _, rfl, hv⟩ (⟨by omega, ok.syn⟩)) ?_
 intro h5 h6 h7 d7 b1
 simp only [pq]
 obtain ⟨d8, a1, rfl, h8, e9⟩ := (d7.own (i := 0) rfl).shape
 unfold maxLen at e9
 refine aC ?_
 refine sA d7 (qV _) fun f0 h9 f1 => ?_
 refine sW 0 f1 (fH) fun i0 b2 => ?_
 refine dy ?_
 simp only [pq]
 refine wn b0 ?_
 refine aE fun i1 b3 => ?_
 refine sk fun i2 b4 => ?_
 refine aC ?_
 refine wn b4 ?_
 refine aF ?_
 refine aH ?_
 refine b3 _ _ ?_
 refine sk fun i3 b5 => ?_
 refine dR b2 2 Tryz.underlying168 (oM) ?_
 simp only [pq]
 refine aR b2 rfl (fn1 (Fm _ _)) (OY _ _ _ (⟨m.turn, m.writes⟩ : Cm) (b2).sat ⟨_, _, rfl, (h1.mono b1)⟩ hm) ?_
 intro i4 i6 f2 f3 f4 f5
 obtain ⟨_, rfl, a7⟩ := f5
 obtain ⟨d9, b6, rfl, e0, _⟩ := a7.shape
 have e0 : (eQ m.turn m.writes).length ≤ b6 := e0
 have a7 : Bs _ (.slice d9 (eQ m.turn m.writes).length b6) (eQ m.turn m.writes) := a7
 refine aC ?_
 refine wn b5 ?_
 refine aE fun i7 b7 => ?_
 refine sk fun i8 b9 => ?_
 refine dx ?_
 refine dr bF (cG (b := false) rfl rfl (by decide)) ?_
 simp only [pq]
 refine wn b9 ?_
 refine aF ?_
 refine aH ?_
 refine b7 _ _ ?_
 refine aE fun i9 c0 => ?_
 obtain ⟨hb1, hb2, hb3⟩ := mB hm
 obtain ⟨hf1, hf2⟩ := mC hm
 refine aB ?_
 refine aC ?_
 refine dr (nI ((eQ m.turn m.writes).length / 256)) (BM (m := ((eQ m.turn m.writes).length)) (n := 8) rfl rfl (by decide)) ?_
 simp only [pq]
 refine dr (bv (b8 ((eQ m.turn m.writes).length / 256))) (bB (v := (nI ((eQ m.turn m.writes).length / 256))) rfl (iY ((eQ m.turn m.writes).length / 256) _)) ?_
 refine aC ?_
 refine dr (bv (b8 ((eQ m.turn m.writes).length))) (bB (v := (.int .i64 (((eQ m.turn m.writes).length : Nat) : Int))) rfl (iY ((eQ m.turn m.writes).length) _)) ?_
 refine bD f3 (v := fun n => .slice (aA n 0) 2 2) rfl (bS (ps := #[(0, (bv (b8 ((eQ m.turn m.writes).length / 256)))), (1, (bv (b8 ((eQ m.turn m.writes).length))))]) (cells := #[(bv (b8 ((eQ m.turn m.writes).length / 256))), (bv (b8 ((eQ m.turn m.writes).length)))]) (E := 5) (fY rfl rfl) (fun w => by kernel_rfl)) (fun f6 f7 e2 => ?_)
 refine dx ?_
 simp only [pq]
 have c1 : St w F f7 f2 [⟨f0, [(.slice d8 t.data.length a1), (nI t.synced)], 108⟩, ⟨n8, [Zn, (iI 0)], 108⟩, ⟨n5, [(nI m.turn), (.slice x1 m.writes.length y1)], 168⟩, ⟨n2, [(.slice x t.data.length y), (nI t.synced)], 108⟩] [bZ 1 ByC ByC.mono 5 w.heap.size (.slice (aA f6 0) 2 2) [b8 ((eQ m.turn m.writes).length / 256), b8 (eQ m.turn m.writes).length], bZ 1 ByC ByC.mono 5 w.heap.size (.slice d8 t.data.length a1) t.data] := St.blkRow (k := 1) (l := [b8 ((eQ m.turn m.writes).length / 256), b8 (eQ m.turn m.writes).length]) (el := [[(bv (b8 ((eQ m.turn m.writes).length / 256)))], [(bv (b8 ((eQ m.turn m.writes).length)))]]) (hR := ByC.mono) e2 rfl ⟨rfl, rfl, trivial⟩ (by simp) rfl (by simp) (by unfold maxLen; decide) (e2.blk _ (List.mem_cons_self ..)).2.2
 refine eE (r := 0) (u := (.slice d9 (eQ m.turn m.writes).length b6)) c1 rfl i5 (.int .u8 0) 1 Tryz.underlying25 hi5 hz5 hs5 hb5 rfl (by decide) rfl rfl rfl (Sl.toW (Bs.sl a7) (c1).sat) ByC.one (Nat.le_refl _) c1.gr.below.size (by unfold maxLen; (try simp only [List.length_append, List.length_cons, List.length_nil]); omega) (by (try simp only [List.length_append, List.length_cons, List.length_nil]); omega) ?_
 intro j0 j1 c2 f8
 refine dy ?_
 refine wlK c0 ?_
 refine sk fun j2 c3 => ?_
 refine dx ?_
 simp only [pq]
 obtain ⟨j3, c4, c5, a5⟩ := oK c2 (i := 0) rfl
 refine SM c2 c5 rfl (fn1 (Is _ _)) (Gq _ _ _ (iJ m) c4 (hT.at c2.gr.below) (eU a5) (by omega)) ?_
 intro f9 j4 j5 g0 g1
 refine aC ?_
 refine wn c3 ?_
 refine aE fun j6 c6 => ?_
 obtain ⟨j7, c7, g2, a3⟩ := St.freeze g0 (i := 0) rfl (Nat.le_refl _)
 have a3 : Bys _ f9 (vI (iJ m)) := a3
 have c8 := eU a3
 obtain ⟨c9, a8, rfl, _⟩ := c8.shape
 have hsl := tG (iJ m)
 have h4 : ((vI (iJ m)).take 4).length = 4 := by rw [List.length_take, hsl]; rfl
 have hcs : 32 ≤ a8 := by obtain ⟨_, _, e, q, _⟩ := c8.shape; injection e with _ _ e; omega
 refine aB ?_
 refine aC ?_
 have g3 : Bs _ (.slice c9 4 a8) ((vI (iJ m)).take 4) := eU (Sl.takeN (Bs.sl c8) (by rw [tG]; decide))
 refine dr (.slice c9 4 a8) (bJ (l := 0) (h := 4) (sz := 1) Tryz.underlying25 rfl (dO _) (.inl ⟨rfl, rfl⟩) (.inr ⟨_, rfl, rfl⟩) (by omega) (by omega) (gL)) ?_
 refine eE (r := 0) (u := (.slice c9 4 a8)) c7 rfl i5 (.int .u8 0) 1 Tryz.underlying25 hi5 hz5 hs5 hb5 rfl (by decide) rfl rfl rfl (Sl.toW (Bs.sl g3) (c7).sat) ByC.one (Nat.le_refl _) c7.gr.below.size (by unfold maxLen; (try simp only [List.length_append, List.length_cons, List.length_nil]); omega) (by (try simp only [List.length_append, List.length_cons, List.length_nil]); omega) ?_
 intro j8 j9 e3 g4
 refine dy ?_
 refine wlK c6 ?_
 refine aE fun k0 d0 => ?_
 refine aE fun k1 d1 => ?_
 obtain ⟨e4, a2, rfl, k2, g5⟩ := (e3.own (i := 0) rfl).shape
 unfold maxLen at g5
 refine aB ?_
 refine aC ?_
 refine dr (nI (t.data.length + (bU m).length)) (iC (m := ((t.data.length : Nat) : Int)) (n := (((bU m).length : Nat) : Int)) (r := (((t.data.length + (bU m).length) : Nat) : Int)) rfl rfl (by omega) (by omega) (by omega)) ?_
 simp only [pq]
 refine mO ?_
 refine wlK d1 ?_
 refine aF ?_
 refine aH ?_
 refine d0 _ _ ?_
 refine aE fun k3 d2 => ?_
 obtain ⟨k4, d3, g6, a4⟩ := St.freeze e3 (i := 0) rfl (Nat.le_refl _)
 have a4 : Bys _ (.slice e4 (bU m).length a2) (bU m) := a4
 have g7 := eU a4
 refine aB ?_
 refine aC ?_
 refine eE (r := 0) (u := (.slice e4 (bU m).length a2)) d3 rfl i5 (.int .u8 0) 1 Tryz.underlying25 hi5 hz5 hs5 hb5 rfl (by decide) rfl rfl rfl (Sl.toW (Bs.sl g7) (d3).sat) ByC.one (Nat.le_refl _) d3.gr.below.size (by unfold maxLen; (try simp only [List.length_append, List.length_cons, List.length_nil]); omega) (by (try simp only [List.length_append, List.length_cons, List.length_nil]); omega) ?_
 intro k5 k6 e5 g8
 simp only [pq]
 obtain ⟨g9, a6, rfl, k7, h0⟩ := (e5.own (i := 0) rfl).shape
 unfold maxLen at h0
 refine df (DF _ _) ?_
 refine sW 0 e5 (mH) fun k8 e6 => ?_
 refine wlK d2 ?_
 refine sk fun k9 d4 => ?_
 refine dR e6 0 Tryz.underlying108 (fH) ?_
 simp only [pq]
 refine sW 1 e6 (fH) fun l0 e7 => ?_
 refine dy ?_
 refine wn d4 ?_
 refine aP ?_
 try simp only [xt]
 refine bR (dN rfl ⟨_, rfl, lR e7 1 Tryz.underlying108 (fH)⟩ (gD rfl)) ?_
 ·obtain ⟨h2, d5, e8, a0⟩ := St.freeze e7 (i := 0) rfl (Nat.le_refl _)
  have a0 : Bys _ (.slice g9 (t.data ++ (bU m)).length a6) (t.data ++ (bU m)) := a0
  have d6 := eU a0
  exact ⟨_, _, rfl, d5.gr, _, rfl, _, _, rfl, d6⟩
theorem TpV.dropT {w : World} {F : Fz} {n : Nat} {T : TypeId} (hs : Sat w F) (hb : w.heap[n]? = some (.cells [Value.slice none 0 0, Value.int .i64 0].toArray T (0, 0))) (hc : ∀ u ∈ [Value.slice none 0 0, Value.int .i64 0], ∀ x, u ≠ bv x) {u : Value} {t : Tp} (h : TpV F u t) : TpV (dropF F n) u t := by
 obtain ⟨x0, y0, rfl, h0⟩ := h
 exact ⟨x0, y0, rfl, h0.dropF hs hb hc⟩
theorem TpV.zero (F : Fz) : TpV F (.agg #[.slice none 0 0, .int .i64 0]) ⟨[], 0⟩ := ⟨none, 0, rfl, Bs.nil F⟩
def SN : List Int := [0, 0, 3, 7, 11, 3, 0, 0, 3]
def Has (w : World) : Prop := ∀ i (hi : i < SN.length), w.cell? ⟨0, i, none⟩ = some (.int .i64 SN[i])
def iZ (h : Nat) (n y l v : Nat) : Int :=
  if h.testBit 0 ∧ ¬ (1 ≤ n ∧ n ≤ 8) then 1 else if h.testBit 0 ∧ ¬ (1 ≤ y ∧ y ≤ 16) then 1 else if h.testBit 2 ∧ ¬ (1 ≤ l ∧ l ≤ 16) then 1 else if 32 < v then 1
  else if (¬ h.testBit 0 ∧ 0 < n) ∨ (¬ h.testBit 1 ∧ 0 < y) ∨ (¬ h.testBit 2 ∧ 0 < l) ∨ (¬ h.testBit 3 ∧ 0 < v) then 4 else 0
theorem uE (w : World) (k : Nat) (k1 : 1 ≤ k) (k8 : k ≤ 8) (hg : 0 < w.heap.size) (hc : w.cell? ⟨0, k, none⟩ = some (.int .i64 0))
    (a0 a1 a2 a3 : Option Addr) (n y l v c0 c1 c2 c3 : Nat) (bn : n ≤ 9223372036854775807) (by' : y ≤ 9223372036854775807) (bl : l ≤ 9223372036854775807) (bv' : v ≤ 9223372036854775807) (hyc : y ≤ c1) (hyc' : c1 ≤ maxLen) (hlc : l ≤ c2) (hlc' : c2 ≤ maxLen) :
    Calls Tryz.prog 41 #[.agg #[.int .i64 k, .slice a0 n c0, .slice a1 y c1, .slice a2 l c2, .slice a3 v c3]] w (cU w (.int .i64 (iZ 0 n y l v))) := by
 have HA : Hid (iZ 0 n y l v = if 32 < v then 1 else if 0 < n ∨ 0 < y ∨ 0 < l ∨ 0 < v then 4 else 0) := by
  unfold Hid iZ
  rw [show (0 : Nat).testBit 0 = false from rfl, show (0 : Nat).testBit 1 = false from rfl, show (0 : Nat).testBit 2 = false from rfl, show (0 : Nat).testBit 3 = false from rfl]
  simp
 generalize iZ 0 n y l v = r at *
 have ix0 : ∀ (X : World) (n' y' l' v' : Nat), (Instr.index 91 (.agg #[.slice a0 n' c0, .slice a1 y' c1, .slice a2 l' c2, .slice a3 v' c3]) (.int .i64 0)).run Tryz.prog X = .ok (.slice a0 n' c0) X := fun _ _ _ _ _ => by kernel_rfl
 have ix1 : ∀ (X : World) (n' y' l' v' : Nat), (Instr.index 91 (.agg #[.slice a0 n' c0, .slice a1 y' c1, .slice a2 l' c2, .slice a3 v' c3]) (.int .i64 1)).run Tryz.prog X = .ok (.slice a1 y' c1) X := fun _ _ _ _ _ => by kernel_rfl
 have ix2 : ∀ (X : World) (n' y' l' v' : Nat), (Instr.index 91 (.agg #[.slice a0 n' c0, .slice a1 y' c1, .slice a2 l' c2, .slice a3 v' c3]) (.int .i64 2)).run Tryz.prog X = .ok (.slice a2 l' c2) X := fun _ _ _ _ _ => by kernel_rfl
 have ix3 : ∀ (X : World) (n' y' l' v' : Nat), (Instr.index 91 (.agg #[.slice a0 n' c0, .slice a1 y' c1, .slice a2 l' c2, .slice a3 v' c3]) (.int .i64 3)).run Tryz.prog X = .ok (.slice a3 v' c3) X := fun _ _ _ _ _ => by kernel_rfl
 go_enter Tryz.func41, Tryz.ntmps41
 go_wp2_with fail
 ·go_ret
  exact ⟨kR (Eq.symm (HA.out.trans (by first | rw [if_pos (by omega)] | rw [if_neg (by omega), if_pos (by omega)] | rw [if_neg (by omega), if_neg (by omega)]))), (Below.refl _ _).alloc (Nat.le_refl _) _⟩
 ·go_loop [58] (fun t => ∃ i : Nat, i ≤ 4 ∧ t = .int .i64 i ∧ (0 < i → n = 0) ∧ (1 < i → y = 0) ∧ (2 < i → l = 0) ∧ (3 < i → v = 0)) (fun t => 4 - (intOf t).toNat)
  case atStart => exact ⟨0, by omega, rfl, by omega⟩
  case round =>
   obtain ⟨i, hi, rfl, hok⟩ := hrel
   have HOK := hid hok
   clear hok
   rcases (by omega : i = 0 ∨ i = 1 ∨ i = 2 ∨ i = 3 ∨ i = 4) with rfl | rfl | rfl | rfl | rfl
   all_goals
    go_wp2_with fail
   all_goals first
    | exact ⟨⟨1, by omega, rfl, (by have h := HOK.out; omega)⟩, by simp [intOf]⟩
    | exact ⟨⟨_, _, _, _, ⟨1, by omega, rfl, (by have h := HOK.out; omega)⟩, rfl, rfl, rfl, rfl⟩, by simp [intOf]⟩
    | exact ⟨⟨2, by omega, rfl, (by have h := HOK.out; omega)⟩, by simp [intOf]⟩
    | exact ⟨⟨_, _, _, _, ⟨2, by omega, rfl, (by have h := HOK.out; omega)⟩, rfl, rfl, rfl, rfl⟩, by simp [intOf]⟩
    | exact ⟨⟨3, by omega, rfl, (by have h := HOK.out; omega)⟩, by simp [intOf]⟩
    | exact ⟨⟨_, _, _, _, ⟨3, by omega, rfl, (by have h := HOK.out; omega)⟩, rfl, rfl, rfl, rfl⟩, by simp [intOf]⟩
    | exact ⟨⟨4, by omega, rfl, (by have h := HOK.out; omega)⟩, by simp [intOf]⟩
    | exact ⟨⟨_, _, _, _, ⟨4, by omega, rfl, (by have h := HOK.out; omega)⟩, rfl, rfl, rfl, rfl⟩, by simp [intOf]⟩
    | (go_ret; have h := HOK.out; exact ⟨kR (Eq.symm (HA.out.trans (by first | rw [if_pos (by omega)] | rw [if_neg (by omega), if_pos (by omega)] | rw [if_neg (by omega), if_neg (by omega)]))), (Below.refl _ _).alloc (Nat.le_refl _) _⟩)
theorem uF (w : World) (k : Nat) (k1 : 1 ≤ k) (k8 : k ≤ 8) (hg : 0 < w.heap.size) (hc : w.cell? ⟨0, k, none⟩ = some (.int .i64 3))
    (a0 a1 a2 a3 : Option Addr) (n y l v c0 c1 c2 c3 : Nat) (bn : n ≤ 9223372036854775807) (by' : y ≤ 9223372036854775807) (bl : l ≤ 9223372036854775807) (bv' : v ≤ 9223372036854775807) (hyc : y ≤ c1) (hyc' : c1 ≤ maxLen) (hlc : l ≤ c2) (hlc' : c2 ≤ maxLen) :
    Calls Tryz.prog 41 #[.agg #[.int .i64 k, .slice a0 n c0, .slice a1 y c1, .slice a2 l c2, .slice a3 v c3]] w (cU w (.int .i64 (iZ 3 n y l v))) := by
 have HA : Hid (iZ 3 n y l v = if ¬ (1 ≤ n ∧ n ≤ 8) then 1 else if ¬ (1 ≤ y ∧ y ≤ 16) then 1 else if 32 < v then 1 else if 0 < l ∨ 0 < v then 4 else 0) := by
  unfold Hid iZ
  rw [show (3 : Nat).testBit 0 = true from rfl, show (3 : Nat).testBit 1 = true from rfl, show (3 : Nat).testBit 2 = false from rfl, show (3 : Nat).testBit 3 = false from rfl]
  simp
 generalize iZ 3 n y l v = r at *
 have ix0 : ∀ (X : World) (n' y' l' v' : Nat), (Instr.index 91 (.agg #[.slice a0 n' c0, .slice a1 y' c1, .slice a2 l' c2, .slice a3 v' c3]) (.int .i64 0)).run Tryz.prog X = .ok (.slice a0 n' c0) X := fun _ _ _ _ _ => by kernel_rfl
 have ix1 : ∀ (X : World) (n' y' l' v' : Nat), (Instr.index 91 (.agg #[.slice a0 n' c0, .slice a1 y' c1, .slice a2 l' c2, .slice a3 v' c3]) (.int .i64 1)).run Tryz.prog X = .ok (.slice a1 y' c1) X := fun _ _ _ _ _ => by kernel_rfl
 have ix2 : ∀ (X : World) (n' y' l' v' : Nat), (Instr.index 91 (.agg #[.slice a0 n' c0, .slice a1 y' c1, .slice a2 l' c2, .slice a3 v' c3]) (.int .i64 2)).run Tryz.prog X = .ok (.slice a2 l' c2) X := fun _ _ _ _ _ => by kernel_rfl
 have ix3 : ∀ (X : World) (n' y' l' v' : Nat), (Instr.index 91 (.agg #[.slice a0 n' c0, .slice a1 y' c1, .slice a2 l' c2, .slice a3 v' c3]) (.int .i64 3)).run Tryz.prog X = .ok (.slice a3 v' c3) X := fun _ _ _ _ _ => by kernel_rfl
 by_cases q0 : 1 ≤ n ∧ n ≤ 8
 case neg =>
  have h0 := hid (uV q0)
  go_enter Tryz.func41, Tryz.ntmps41
  go_wp2_with (go_at_call 42; refine (hH _ _ _ _).mono ?_; rw [h0.out]; rintro e w' ⟨rfl, rfl⟩)
  go_ret
  exact ⟨kR (Eq.symm (HA.out.trans (by first | rw [if_pos (by omega)] | rw [if_neg (by omega), if_pos (by omega)] | rw [if_neg (by omega), if_neg (by omega), if_pos (by omega)] | rw [if_neg (by omega), if_neg (by omega), if_neg (by omega), if_pos (by omega)] | rw [if_neg (by omega), if_neg (by omega), if_neg (by omega), if_neg (by omega)]))), (Below.refl _ _).alloc (Nat.le_refl _) _⟩
 by_cases q1 : 1 ≤ y ∧ y ≤ 16
 case neg =>
  have h0 := hid (kH q0.1 q0.2)
  have h1 := hid (oC q1)
  go_enter Tryz.func41, Tryz.ntmps41
  go_wp2_with (first | (go_at_call 42; refine (hH _ _ _ _).mono ?_; rw [h0.out]; rintro e w' ⟨rfl, rfl⟩) | (go_at_call 55; refine (jK _ _ _ _ hyc hyc').mono ?_; rw [h1.out]; rintro e w' ⟨rfl, rfl⟩))
  go_ret
  exact ⟨kR (Eq.symm (HA.out.trans (by first | rw [if_pos (by omega)] | rw [if_neg (by omega), if_pos (by omega)] | rw [if_neg (by omega), if_neg (by omega), if_pos (by omega)] | rw [if_neg (by omega), if_neg (by omega), if_neg (by omega), if_pos (by omega)] | rw [if_neg (by omega), if_neg (by omega), if_neg (by omega), if_neg (by omega)]))), (Below.refl _ _).alloc (Nat.le_refl _) _⟩
 have h0 := hid (kH q0.1 q0.2)
 have h1 := hid (gU q1.1 q1.2)
 go_enter Tryz.func41, Tryz.ntmps41
 go_wp2_with fail
 refine (hH _ _ _ _).mono ?_; rw [h0.out]; rintro e w' ⟨rfl, rfl⟩
 go_wp2_with fail
 refine (jK _ _ _ _ hyc hyc').mono ?_; rw [h1.out]; rintro e w' ⟨rfl, rfl⟩
 go_wp2_with fail
 ·go_ret
  exact ⟨kR (Eq.symm (HA.out.trans (by first | rw [if_pos (by omega)] | rw [if_neg (by omega), if_pos (by omega)] | rw [if_neg (by omega), if_neg (by omega), if_pos (by omega)] | rw [if_neg (by omega), if_neg (by omega), if_neg (by omega), if_pos (by omega)] | rw [if_neg (by omega), if_neg (by omega), if_neg (by omega), if_neg (by omega)]))), (Below.refl _ _).alloc (Nat.le_refl _) _⟩
 ·go_loop [58] (fun t => ∃ i : Nat, i ≤ 4 ∧ t = .int .i64 i ∧ (2 < i → l = 0) ∧ (3 < i → v = 0)) (fun t => 4 - (intOf t).toNat)
  case atStart => exact ⟨0, by omega, rfl, by omega⟩
  case round =>
   obtain ⟨i, hi, rfl, hok⟩ := hrel
   have HOK := hid hok
   clear hok
   rcases (by omega : i = 0 ∨ i = 1 ∨ i = 2 ∨ i = 3 ∨ i = 4) with rfl | rfl | rfl | rfl | rfl
   all_goals
    go_wp2_with fail
   all_goals first
    | exact ⟨⟨1, by omega, rfl, (by have h := HOK.out; omega)⟩, by simp [intOf]⟩
    | exact ⟨⟨_, _, _, _, ⟨1, by omega, rfl, (by have h := HOK.out; omega)⟩, rfl, rfl, rfl, rfl⟩, by simp [intOf]⟩
    | exact ⟨⟨2, by omega, rfl, (by have h := HOK.out; omega)⟩, by simp [intOf]⟩
    | exact ⟨⟨_, _, _, _, ⟨2, by omega, rfl, (by have h := HOK.out; omega)⟩, rfl, rfl, rfl, rfl⟩, by simp [intOf]⟩
    | exact ⟨⟨3, by omega, rfl, (by have h := HOK.out; omega)⟩, by simp [intOf]⟩
    | exact ⟨⟨_, _, _, _, ⟨3, by omega, rfl, (by have h := HOK.out; omega)⟩, rfl, rfl, rfl, rfl⟩, by simp [intOf]⟩
    | exact ⟨⟨4, by omega, rfl, (by have h := HOK.out; omega)⟩, by simp [intOf]⟩
    | exact ⟨⟨_, _, _, _, ⟨4, by omega, rfl, (by have h := HOK.out; omega)⟩, rfl, rfl, rfl, rfl⟩, by simp [intOf]⟩
    | (go_ret; have h := HOK.out; exact ⟨kR (Eq.symm (HA.out.trans (by first | rw [if_pos (by omega)] | rw [if_neg (by omega), if_pos (by omega)] | rw [if_neg (by omega), if_neg (by omega), if_pos (by omega)] | rw [if_neg (by omega), if_neg (by omega), if_neg (by omega), if_pos (by omega)] | rw [if_neg (by omega), if_neg (by omega), if_neg (by omega), if_neg (by omega)]))), (Below.refl _ _).alloc (Nat.le_refl _) _⟩)
theorem PS (w : World) (k : Nat) (k1 : 1 ≤ k) (k8 : k ≤ 8) (hg : 0 < w.heap.size) (hc : w.cell? ⟨0, k, none⟩ = some (.int .i64 7))
    (a0 a1 a2 a3 : Option Addr) (n y l v c0 c1 c2 c3 : Nat) (bn : n ≤ 9223372036854775807) (by' : y ≤ 9223372036854775807) (bl : l ≤ 9223372036854775807) (bv' : v ≤ 9223372036854775807) (hyc : y ≤ c1) (hyc' : c1 ≤ maxLen) (hlc : l ≤ c2) (hlc' : c2 ≤ maxLen) :
    Calls Tryz.prog 41 #[.agg #[.int .i64 k, .slice a0 n c0, .slice a1 y c1, .slice a2 l c2, .slice a3 v c3]] w (cU w (.int .i64 (iZ 7 n y l v))) := by
 have HA : Hid (iZ 7 n y l v = if ¬ (1 ≤ n ∧ n ≤ 8) then 1 else if ¬ (1 ≤ y ∧ y ≤ 16) then 1 else if ¬ (1 ≤ l ∧ l ≤ 16) then 1 else if 32 < v then 1 else if 0 < v then 4 else 0) := by
  unfold Hid iZ
  rw [show (7 : Nat).testBit 0 = true from rfl, show (7 : Nat).testBit 1 = true from rfl, show (7 : Nat).testBit 2 = true from rfl, show (7 : Nat).testBit 3 = false from rfl]
  simp
 generalize iZ 7 n y l v = r at *
 have ix0 : ∀ (X : World) (n' y' l' v' : Nat), (Instr.index 91 (.agg #[.slice a0 n' c0, .slice a1 y' c1, .slice a2 l' c2, .slice a3 v' c3]) (.int .i64 0)).run Tryz.prog X = .ok (.slice a0 n' c0) X := fun _ _ _ _ _ => by kernel_rfl
 have ix1 : ∀ (X : World) (n' y' l' v' : Nat), (Instr.index 91 (.agg #[.slice a0 n' c0, .slice a1 y' c1, .slice a2 l' c2, .slice a3 v' c3]) (.int .i64 1)).run Tryz.prog X = .ok (.slice a1 y' c1) X := fun _ _ _ _ _ => by kernel_rfl
 have ix2 : ∀ (X : World) (n' y' l' v' : Nat), (Instr.index 91 (.agg #[.slice a0 n' c0, .slice a1 y' c1, .slice a2 l' c2, .slice a3 v' c3]) (.int .i64 2)).run Tryz.prog X = .ok (.slice a2 l' c2) X := fun _ _ _ _ _ => by kernel_rfl
 have ix3 : ∀ (X : World) (n' y' l' v' : Nat), (Instr.index 91 (.agg #[.slice a0 n' c0, .slice a1 y' c1, .slice a2 l' c2, .slice a3 v' c3]) (.int .i64 3)).run Tryz.prog X = .ok (.slice a3 v' c3) X := fun _ _ _ _ _ => by kernel_rfl
 by_cases q0 : 1 ≤ n ∧ n ≤ 8
 case neg =>
  have h0 := hid (uV q0)
  go_enter Tryz.func41, Tryz.ntmps41
  go_wp2_with (go_at_call 42; refine (hH _ _ _ _).mono ?_; rw [h0.out]; rintro e w' ⟨rfl, rfl⟩)
  go_ret
  exact ⟨kR (Eq.symm (HA.out.trans (by first | rw [if_pos (by omega)] | rw [if_neg (by omega), if_pos (by omega)] | rw [if_neg (by omega), if_neg (by omega), if_pos (by omega)] | rw [if_neg (by omega), if_neg (by omega), if_neg (by omega), if_pos (by omega)] | rw [if_neg (by omega), if_neg (by omega), if_neg (by omega), if_neg (by omega), if_pos (by omega)] | rw [if_neg (by omega), if_neg (by omega), if_neg (by omega), if_neg (by omega), if_neg (by omega)]))), (Below.refl _ _).alloc (Nat.le_refl _) _⟩
 by_cases q1 : 1 ≤ y ∧ y ≤ 16
 case neg =>
  have h0 := hid (kH q0.1 q0.2)
  have h1 := hid (oC q1)
  go_enter Tryz.func41, Tryz.ntmps41
  go_wp2_with (first | (go_at_call 42; refine (hH _ _ _ _).mono ?_; rw [h0.out]; rintro e w' ⟨rfl, rfl⟩) | (go_at_call 55; refine (jK _ _ _ _ hyc hyc').mono ?_; rw [h1.out]; rintro e w' ⟨rfl, rfl⟩))
  go_ret
  exact ⟨kR (Eq.symm (HA.out.trans (by first | rw [if_pos (by omega)] | rw [if_neg (by omega), if_pos (by omega)] | rw [if_neg (by omega), if_neg (by omega), if_pos (by omega)] | rw [if_neg (by omega), if_neg (by omega), if_neg (by omega), if_pos (by omega)] | rw [if_neg (by omega), if_neg (by omega), if_neg (by omega), if_neg (by omega), if_pos (by omega)] | rw [if_neg (by omega), if_neg (by omega), if_neg (by omega), if_neg (by omega), if_neg (by omega)]))), (Below.refl _ _).alloc (Nat.le_refl _) _⟩
 have h0 := hid (kH q0.1 q0.2)
 have h1 := hid (gU q1.1 q1.2)
 by_cases q2 : 1 ≤ l ∧ l ≤ 16
 case neg =>
  have h2 := hid (oC q2)
  go_enter Tryz.func41, Tryz.ntmps41
  go_wp2_with fail
  refine (hH _ _ _ _).mono ?_; rw [h0.out]; rintro e w' ⟨rfl, rfl⟩
  go_wp2_with fail
  refine (jK _ _ _ _ hyc hyc').mono ?_; rw [h1.out]; rintro e w' ⟨rfl, rfl⟩
  go_wp2_with fail
  refine (jK _ _ _ _ hlc hlc').mono ?_; rw [h2.out]; rintro e w' ⟨rfl, rfl⟩
  go_wp2_with fail
  go_ret
  exact ⟨kR (Eq.symm (HA.out.trans (by first | rw [if_pos (by omega)] | rw [if_neg (by omega), if_pos (by omega)] | rw [if_neg (by omega), if_neg (by omega), if_pos (by omega)] | rw [if_neg (by omega), if_neg (by omega), if_neg (by omega), if_pos (by omega)] | rw [if_neg (by omega), if_neg (by omega), if_neg (by omega), if_neg (by omega), if_pos (by omega)] | rw [if_neg (by omega), if_neg (by omega), if_neg (by omega), if_neg (by omega), if_neg (by omega)]))), (Below.refl _ _).alloc (Nat.le_refl _) _⟩
 have h2 := hid (gU q2.1 q2.2)
 go_enter Tryz.func41, Tryz.ntmps41
 go_wp2_with fail
 refine (hH _ _ _ _).mono ?_; rw [h0.out]; rintro e w' ⟨rfl, rfl⟩
 go_wp2_with fail
 refine (jK _ _ _ _ hyc hyc').mono ?_; rw [h1.out]; rintro e w' ⟨rfl, rfl⟩
 go_wp2_with fail
 refine (jK _ _ _ _ hlc hlc').mono ?_; rw [h2.out]; rintro e w' ⟨rfl, rfl⟩
 go_wp2_with fail
 ·go_ret
  exact ⟨kR (Eq.symm (HA.out.trans (by first | rw [if_pos (by omega)] | rw [if_neg (by omega), if_pos (by omega)] | rw [if_neg (by omega), if_neg (by omega), if_pos (by omega)] | rw [if_neg (by omega), if_neg (by omega), if_neg (by omega), if_pos (by omega)] | rw [if_neg (by omega), if_neg (by omega), if_neg (by omega), if_neg (by omega), if_pos (by omega)] | rw [if_neg (by omega), if_neg (by omega), if_neg (by omega), if_neg (by omega), if_neg (by omega)]))), (Below.refl _ _).alloc (Nat.le_refl _) _⟩
 ·go_loop [58] (fun t => ∃ i : Nat, i ≤ 4 ∧ t = .int .i64 i ∧ (3 < i → v = 0)) (fun t => 4 - (intOf t).toNat)
  case atStart => exact ⟨0, by omega, rfl, by omega⟩
  case round =>
   obtain ⟨i, hi, rfl, hok⟩ := hrel
   have HOK := hid hok
   clear hok
   rcases (by omega : i = 0 ∨ i = 1 ∨ i = 2 ∨ i = 3 ∨ i = 4) with rfl | rfl | rfl | rfl | rfl
   all_goals
    go_wp2_with fail
   all_goals first
    | exact ⟨⟨1, by omega, rfl, (by have h := HOK.out; omega)⟩, by simp [intOf]⟩
    | exact ⟨⟨_, _, _, _, ⟨1, by omega, rfl, (by have h := HOK.out; omega)⟩, rfl, rfl, rfl, rfl⟩, by simp [intOf]⟩
    | exact ⟨⟨2, by omega, rfl, (by have h := HOK.out; omega)⟩, by simp [intOf]⟩
    | exact ⟨⟨_, _, _, _, ⟨2, by omega, rfl, (by have h := HOK.out; omega)⟩, rfl, rfl, rfl, rfl⟩, by simp [intOf]⟩
    | exact ⟨⟨3, by omega, rfl, (by have h := HOK.out; omega)⟩, by simp [intOf]⟩
    | exact ⟨⟨_, _, _, _, ⟨3, by omega, rfl, (by have h := HOK.out; omega)⟩, rfl, rfl, rfl, rfl⟩, by simp [intOf]⟩
    | exact ⟨⟨4, by omega, rfl, (by have h := HOK.out; omega)⟩, by simp [intOf]⟩
    | exact ⟨⟨_, _, _, _, ⟨4, by omega, rfl, (by have h := HOK.out; omega)⟩, rfl, rfl, rfl, rfl⟩, by simp [intOf]⟩
    | (go_ret; have h := HOK.out; exact ⟨kR (Eq.symm (HA.out.trans (by first | rw [if_pos (by omega)] | rw [if_neg (by omega), if_pos (by omega)] | rw [if_neg (by omega), if_neg (by omega), if_pos (by omega)] | rw [if_neg (by omega), if_neg (by omega), if_neg (by omega), if_pos (by omega)] | rw [if_neg (by omega), if_neg (by omega), if_neg (by omega), if_neg (by omega), if_pos (by omega)] | rw [if_neg (by omega), if_neg (by omega), if_neg (by omega), if_neg (by omega), if_neg (by omega)]))), (Below.refl _ _).alloc (Nat.le_refl _) _⟩)
theorem LS (w : World) (k : Nat) (k1 : 1 ≤ k) (k8 : k ≤ 8) (hg : 0 < w.heap.size) (hc : w.cell? ⟨0, k, none⟩ = some (.int .i64 11))
    (a0 a1 a2 a3 : Option Addr) (n y l v c0 c1 c2 c3 : Nat) (bn : n ≤ 9223372036854775807) (by' : y ≤ 9223372036854775807) (bl : l ≤ 9223372036854775807) (bv' : v ≤ 9223372036854775807) (hyc : y ≤ c1) (hyc' : c1 ≤ maxLen) (hlc : l ≤ c2) (hlc' : c2 ≤ maxLen) :
    Calls Tryz.prog 41 #[.agg #[.int .i64 k, .slice a0 n c0, .slice a1 y c1, .slice a2 l c2, .slice a3 v c3]] w (cU w (.int .i64 (iZ 11 n y l v))) := by
 have HA : Hid (iZ 11 n y l v = if ¬ (1 ≤ n ∧ n ≤ 8) then 1 else if ¬ (1 ≤ y ∧ y ≤ 16) then 1 else if 32 < v then 1 else if 0 < l then 4 else 0) := by
  unfold Hid iZ
  rw [show (11 : Nat).testBit 0 = true from rfl, show (11 : Nat).testBit 1 = true from rfl, show (11 : Nat).testBit 2 = false from rfl, show (11 : Nat).testBit 3 = true from rfl]
  simp
 generalize iZ 11 n y l v = r at *
 have ix0 : ∀ (X : World) (n' y' l' v' : Nat), (Instr.index 91 (.agg #[.slice a0 n' c0, .slice a1 y' c1, .slice a2 l' c2, .slice a3 v' c3]) (.int .i64 0)).run Tryz.prog X = .ok (.slice a0 n' c0) X := fun _ _ _ _ _ => by kernel_rfl
 have ix1 : ∀ (X : World) (n' y' l' v' : Nat), (Instr.index 91 (.agg #[.slice a0 n' c0, .slice a1 y' c1, .slice a2 l' c2, .slice a3 v' c3]) (.int .i64 1)).run Tryz.prog X = .ok (.slice a1 y' c1) X := fun _ _ _ _ _ => by kernel_rfl
 have ix2 : ∀ (X : World) (n' y' l' v' : Nat), (Instr.index 91 (.agg #[.slice a0 n' c0, .slice a1 y' c1, .slice a2 l' c2, .slice a3 v' c3]) (.int .i64 2)).run Tryz.prog X = .ok (.slice a2 l' c2) X := fun _ _ _ _ _ => by kernel_rfl
 have ix3 : ∀ (X : World) (n' y' l' v' : Nat), (Instr.index 91 (.agg #[.slice a0 n' c0, .slice a1 y' c1, .slice a2 l' c2, .slice a3 v' c3]) (.int .i64 3)).run Tryz.prog X = .ok (.slice a3 v' c3) X := fun _ _ _ _ _ => by kernel_rfl
 by_cases q0 : 1 ≤ n ∧ n ≤ 8
 case neg =>
  have h0 := hid (uV q0)
  go_enter Tryz.func41, Tryz.ntmps41
  go_wp2_with (go_at_call 42; refine (hH _ _ _ _).mono ?_; rw [h0.out]; rintro e w' ⟨rfl, rfl⟩)
  go_ret
  exact ⟨kR (Eq.symm (HA.out.trans (by first | rw [if_pos (by omega)] | rw [if_neg (by omega), if_pos (by omega)] | rw [if_neg (by omega), if_neg (by omega), if_pos (by omega)] | rw [if_neg (by omega), if_neg (by omega), if_neg (by omega), if_pos (by omega)] | rw [if_neg (by omega), if_neg (by omega), if_neg (by omega), if_neg (by omega)]))), (Below.refl _ _).alloc (Nat.le_refl _) _⟩
 by_cases q1 : 1 ≤ y ∧ y ≤ 16
 case neg =>
  have h0 := hid (kH q0.1 q0.2)
  have h1 := hid (oC q1)
  go_enter Tryz.func41, Tryz.ntmps41
  go_wp2_with (first | (go_at_call 42; refine (hH _ _ _ _).mono ?_; rw [h0.out]; rintro e w' ⟨rfl, rfl⟩) | (go_at_call 55; refine (jK _ _ _ _ hyc hyc').mono ?_; rw [h1.out]; rintro e w' ⟨rfl, rfl⟩))
  go_ret
  exact ⟨kR (Eq.symm (HA.out.trans (by first | rw [if_pos (by omega)] | rw [if_neg (by omega), if_pos (by omega)] | rw [if_neg (by omega), if_neg (by omega), if_pos (by omega)] | rw [if_neg (by omega), if_neg (by omega), if_neg (by omega), if_pos (by omega)] | rw [if_neg (by omega), if_neg (by omega), if_neg (by omega), if_neg (by omega)]))), (Below.refl _ _).alloc (Nat.le_refl _) _⟩
 have h0 := hid (kH q0.1 q0.2)
 have h1 := hid (gU q1.1 q1.2)
 go_enter Tryz.func41, Tryz.ntmps41
 go_wp2_with fail
 refine (hH _ _ _ _).mono ?_; rw [h0.out]; rintro e w' ⟨rfl, rfl⟩
 go_wp2_with fail
 refine (jK _ _ _ _ hyc hyc').mono ?_; rw [h1.out]; rintro e w' ⟨rfl, rfl⟩
 go_wp2_with fail
 ·go_ret
  exact ⟨kR (Eq.symm (HA.out.trans (by first | rw [if_pos (by omega)] | rw [if_neg (by omega), if_pos (by omega)] | rw [if_neg (by omega), if_neg (by omega), if_pos (by omega)] | rw [if_neg (by omega), if_neg (by omega), if_neg (by omega), if_pos (by omega)] | rw [if_neg (by omega), if_neg (by omega), if_neg (by omega), if_neg (by omega)]))), (Below.refl _ _).alloc (Nat.le_refl _) _⟩
 ·go_loop [58] (fun t => ∃ i : Nat, i ≤ 4 ∧ t = .int .i64 i ∧ (2 < i → l = 0)) (fun t => 4 - (intOf t).toNat)
  case atStart => exact ⟨0, by omega, rfl, by omega⟩
  case round =>
   obtain ⟨i, hi, rfl, hok⟩ := hrel
   have HOK := hid hok
   clear hok
   rcases (by omega : i = 0 ∨ i = 1 ∨ i = 2 ∨ i = 3 ∨ i = 4) with rfl | rfl | rfl | rfl | rfl
   all_goals
    go_wp2_with fail
   all_goals first
    | exact ⟨⟨1, by omega, rfl, (by have h := HOK.out; omega)⟩, by simp [intOf]⟩
    | exact ⟨⟨_, _, _, _, ⟨1, by omega, rfl, (by have h := HOK.out; omega)⟩, rfl, rfl, rfl, rfl⟩, by simp [intOf]⟩
    | exact ⟨⟨2, by omega, rfl, (by have h := HOK.out; omega)⟩, by simp [intOf]⟩
    | exact ⟨⟨_, _, _, _, ⟨2, by omega, rfl, (by have h := HOK.out; omega)⟩, rfl, rfl, rfl, rfl⟩, by simp [intOf]⟩
    | exact ⟨⟨3, by omega, rfl, (by have h := HOK.out; omega)⟩, by simp [intOf]⟩
    | exact ⟨⟨_, _, _, _, ⟨3, by omega, rfl, (by have h := HOK.out; omega)⟩, rfl, rfl, rfl, rfl⟩, by simp [intOf]⟩
    | exact ⟨⟨4, by omega, rfl, (by have h := HOK.out; omega)⟩, by simp [intOf]⟩
    | exact ⟨⟨_, _, _, _, ⟨4, by omega, rfl, (by have h := HOK.out; omega)⟩, rfl, rfl, rfl, rfl⟩, by simp [intOf]⟩
    | (go_ret; have h := HOK.out; exact ⟨kR (Eq.symm (HA.out.trans (by first | rw [if_pos (by omega)] | rw [if_neg (by omega), if_pos (by omega)] | rw [if_neg (by omega), if_neg (by omega), if_pos (by omega)] | rw [if_neg (by omega), if_neg (by omega), if_neg (by omega), if_pos (by omega)] | rw [if_neg (by omega), if_neg (by omega), if_neg (by omega), if_neg (by omega)]))), (Below.refl _ _).alloc (Nat.le_refl _) _⟩)
def AT (F : Fz) (v : Value) (kind : Int) (n y l x : List UInt8) : Prop := ∃ a b c d, v = .agg #[.int .i64 kind, a, b, c, d] ∧ Bs F a n ∧ Bs F b y ∧ Bs F c l ∧ Bs F d x
def uG (k : Nat) (n y l v : Nat) : Int := iZ (SN.getD k 0).toNat n y l v
theorem uH (F : Fz) (w : World) (v : Value) (k : Nat) (n y l x : List UInt8) (k1 : 1 ≤ k) (k8 : k ≤ 8) (hh : Has w) (hv : AT F v k n y l x) :
    Calls Tryz.prog 41 #[v] w (cU w (.int .i64 (uG k n.length y.length l.length x.length))) := by
 obtain ⟨a, b, c, d, rfl, ha, hb, hc, hd⟩ := hv
 obtain ⟨a0, c0, rfl, e1, e2⟩ := ha.shape
 obtain ⟨a1, c1, rfl, e3, e4⟩ := hb.shape
 obtain ⟨a2, c2, rfl, e5, e6⟩ := hc.shape
 obtain ⟨a3, c3, rfl, e7, e8⟩ := hd.shape
 have f2 := e2
 have f4 := e4
 have f6 := e6
 have f8 := e8
 unfold maxLen at f2 f4 f6 f8
 have hg : 0 < w.heap.size := World.block_lt_of_cell? w ⟨0, 0, none⟩ (hh 0 (by decide))
 have hk := hh k (by simp [SN]; omega)
 unfold uG
 rcases (by omega : k = 1 ∨ k = 2 ∨ k = 3 ∨ k = 4 ∨ k = 5 ∨ k = 6 ∨ k = 7 ∨ k = 8) with rfl | rfl | rfl | rfl | rfl | rfl | rfl | rfl
 ·exact uE w 1 k1 k8 hg hk _ _ _ _ _ _ _ _ _ _ _ _ (by omega) (by omega) (by omega) (by omega) e3 e4 e5 e6
 ·exact uF w 2 k1 k8 hg hk _ _ _ _ _ _ _ _ _ _ _ _ (by omega) (by omega) (by omega) (by omega) e3 e4 e5 e6
 ·exact PS w 3 k1 k8 hg hk _ _ _ _ _ _ _ _ _ _ _ _ (by omega) (by omega) (by omega) (by omega) e3 e4 e5 e6
 ·exact LS w 4 k1 k8 hg hk _ _ _ _ _ _ _ _ _ _ _ _ (by omega) (by omega) (by omega) (by omega) e3 e4 e5 e6
 ·exact uF w 5 k1 k8 hg hk _ _ _ _ _ _ _ _ _ _ _ _ (by omega) (by omega) (by omega) (by omega) e3 e4 e5 e6
 ·exact uE w 6 k1 k8 hg hk _ _ _ _ _ _ _ _ _ _ _ _ (by omega) (by omega) (by omega) (by omega) e3 e4 e5 e6
 ·exact uE w 7 k1 k8 hg hk _ _ _ _ _ _ _ _ _ _ _ _ (by omega) (by omega) (by omega) (by omega) e3 e4 e5 e6
 ·exact uF w 8 k1 k8 hg hk _ _ _ _ _ _ _ _ _ _ _ _ (by omega) (by omega) (by omega) (by omega) e3 e4 e5 e6
theorem Has.below {w w' : World} (h : Has w) (hb : Below w.heap.size w w') : Has w' := fun i hi => by
  rw [hb.cell (World.block_lt_of_cell? w ⟨0, i, none⟩ (h i hi))]; exact h i hi
def bH (k : Nat) : Nat := (SN.getD k 0).toNat
def Rq.part (r : Rq) : Nat → By
  | 0 => r.name
  | 1 => r.key
  | 2 => r.last
  | _ => r.value
def Rq.put (r : Rq) : Nat → By → Rq
  | 0, p => { r with name := p }
  | 1, p => { r with key := p }
  | 2, p => { r with last := p }
  | _, p => { r with value := p }
def iF (h : Nat) (r : Rq) : Nat → By
  | 0 => []
  | i + 1 => iF h r i ++ yU (h.testBit i) (r.part i)
theorem SP (h : Nat) (r : Rq) : iF h r 4 = JO h r := by
 simp [iF, JO, Rq.part]
theorem vB {h i : Nat} (r : Rq) (e : h.testBit i = false) : iF h r (i + 1) = iF h r i := by
 simp [iF, yU, e]
theorem sJ {h i : Nat} (r : Rq) (e : h.testBit i = true) : iF h r (i + 1) = iF h r i ++ b8 (r.part i).length :: r.part i := by
 simp [iF, yU, e, dK]
def eH (h : Nat) : Nat → Nat → Rq → By → Option (Rq × By)
  | 0, _, r, b => some (r, b)
  | n + 1, i, r, b => if h.testBit i = true then
      match jC b with
      | none => none
      | some p => eH h n (i + 1) (r.put i p.1) p.2
    else eH h n (i + 1) r b
theorem dQ {h n i : Nat} {r : Rq} {b : By} (e : h.testBit i = false) : eH h (n + 1) i r b = eH h n (i + 1) r b := by
 rw [eH, if_neg (by rw [e]; decide)]
theorem bX {h n i : Nat} {r : Rq} {b : By} (e : h.testBit i = true) (k : jC b = none) : eH h (n + 1) i r b = none := by
 rw [eH, if_pos e, k]
theorem cQ {h n i : Nat} {r : Rq} {b : By} {p : By × By} (e : h.testBit i = true) (k : jC b = some p) : eH h (n + 1) i r b = eH h n (i + 1) (r.put i p.1) p.2 := by
 rw [eH, if_pos e, k]
theorem PT (h : Nat) (b : By) : eH h 4 0 ⟨[], [], [], []⟩ b = oG h b := by
 unfold oG yT
 cases e0 : h.testBit 0
 ·rw [dQ e0]
  cases e1 : h.testBit 1
  ·rw [dQ e1]
   cases e2 : h.testBit 2
   ·rw [dQ e2]
    cases e3 : h.testBit 3
    ·rw [dQ e3]; simp [eH]
    ·cases k3 : jC b with
     | none => rw [bX e3 k3]; simp [k3]
     | some p3 => rw [cQ e3 k3]; simp [k3, eH, Rq.put]
   ·cases k2 : jC b with
    | none => rw [bX e2 k2]; simp [k2]
    | some p2 =>
     rw [cQ e2 k2]
     cases e3 : h.testBit 3
     ·rw [dQ e3]; simp [k2, eH, Rq.put]
     ·cases k3 : jC p2.2 with
      | none => rw [bX e3 k3]; simp [k2, k3]
      | some p3 => rw [cQ e3 k3]; simp [k2, k3, eH, Rq.put]
  ·cases k1 : jC b with
   | none => rw [bX e1 k1]; simp [k1]
   | some p1 =>
    rw [cQ e1 k1]
    cases e2 : h.testBit 2
    ·rw [dQ e2]
     cases e3 : h.testBit 3
     ·rw [dQ e3]; simp [k1, eH, Rq.put]
     ·cases k3 : jC p1.2 with
      | none => rw [bX e3 k3]; simp [k1, k3]
      | some p3 => rw [cQ e3 k3]; simp [k1, k3, eH, Rq.put]
    ·cases k2 : jC p1.2 with
     | none => rw [bX e2 k2]; simp [k1, k2]
     | some p2 =>
      rw [cQ e2 k2]
      cases e3 : h.testBit 3
      ·rw [dQ e3]; simp [k1, k2, eH, Rq.put]
      ·cases k3 : jC p2.2 with
       | none => rw [bX e3 k3]; simp [k1, k2, k3]
       | some p3 => rw [cQ e3 k3]; simp [k1, k2, k3, eH, Rq.put]
 ·cases k0 : jC b with
  | none => rw [bX e0 k0]; simp [k0]
  | some p0 =>
   rw [cQ e0 k0]
   cases e1 : h.testBit 1
   ·rw [dQ e1]
    cases e2 : h.testBit 2
    ·rw [dQ e2]
     cases e3 : h.testBit 3
     ·rw [dQ e3]; simp [eH, Rq.put]
     ·cases k3 : jC p0.2 with
      | none => rw [bX e3 k3]; simp [k3]
      | some p3 => rw [cQ e3 k3]; simp [k3, eH, Rq.put]
    ·cases k2 : jC p0.2 with
     | none => rw [bX e2 k2]; simp [k2]
     | some p2 =>
      rw [cQ e2 k2]
      cases e3 : h.testBit 3
      ·rw [dQ e3]; simp [k2, eH, Rq.put]
      ·cases k3 : jC p2.2 with
       | none => rw [bX e3 k3]; simp [k2, k3]
       | some p3 => rw [cQ e3 k3]; simp [k2, k3, eH, Rq.put]
   ·cases k1 : jC p0.2 with
    | none => rw [bX e1 k1]; simp [k1]
    | some p1 =>
     rw [cQ e1 k1]
     cases e2 : h.testBit 2
     ·rw [dQ e2]
      cases e3 : h.testBit 3
      ·rw [dQ e3]; simp [k1, eH, Rq.put]
      ·cases k3 : jC p1.2 with
       | none => rw [bX e3 k3]; simp [k1, k3]
       | some p3 => rw [cQ e3 k3]; simp [k1, k3, eH, Rq.put]
     ·cases k2 : jC p1.2 with
      | none => rw [bX e2 k2]; simp [k1, k2]
      | some p2 =>
       rw [cQ e2 k2]
       cases e3 : h.testBit 3
       ·rw [dQ e3]; simp [k1, k2, eH, Rq.put]
       ·cases k3 : jC p2.2 with
        | none => rw [bX e3 k3]; simp [k1, k2, k3]
        | some p3 => rw [cQ e3 k3]; simp [k1, k2, k3, eH, Rq.put]
theorem yC {b : By} (h : b.length = 0) : jC b = none := by
 rw [List.eq_nil_of_length_eq_zero h]; rfl
theorem sK {b : By} {x : UInt8} (h : b[0]? = some x) (k : b.length < 1 + x.toNat) : jC b = none := by
 cases b with
 | nil => cases h
 | cons y t =>
  simp only [List.getElem?_cons_zero, Option.some.injEq] at h
  subst h
  simp only [List.length_cons] at k
  rw [rR, if_pos (by omega)]
theorem vC {b : By} {x : UInt8} (h : b[0]? = some x) (k : ¬ b.length < 1 + x.toNat) : jC b = some ((b.take (1 + x.toNat)).drop 1, b.drop (1 + x.toNat)) := by
 cases b with
 | nil => cases h
 | cons y t =>
  simp only [List.getElem?_cons_zero, Option.some.injEq] at h
  subst h
  simp only [List.length_cons] at k
  rw [rR, if_neg (by omega), Nat.add_comm 1]
  simp
def wdE (b : By) : Int :=
  if 4000 < b.length then 1 else match b with
  | [] => 14
  | x :: t => if x.toNat < 1 ∨ 8 < x.toNat then 5 else match oG (bH x.toNat) t with
    | none => 14
    | some p => if 0 < p.2.length then 4 else uG x.toNat p.1.name.length p.1.key.length p.1.last.length p.1.value.length
def wdR (b : By) : Nat × Rq :=
  if wdE b = 0 then match b with
    | [] => (0, ⟨[], [], [], []⟩)
    | x :: t => match oG (bH x.toNat) t with
      | none => (0, ⟨[], [], [], []⟩)
      | some p => (x.toNat, p.1)
  else (0, ⟨[], [], [], []⟩)
theorem Br (k : Nat) (h : 1 ≤ k ∧ k ≤ 8) : bH k = 0 ∨ bH k = 3 ∨ bH k = 7 ∨ bH k = 11 := by
 rcases (by omega : k = 1 ∨ k = 2 ∨ k = 3 ∨ k = 4 ∨ k = 5 ∨ k = 6 ∨ k = 7 ∨ k = 8) with rfl | rfl | rfl | rfl | rfl | rfl | rfl | rfl <;> decide
theorem VB (k : Nat) (h : 1 ≤ k ∧ k ≤ 8) : (bH k).testBit 1 = (bH k).testBit 0 := by
 rcases Br k h with e | e | e | e <;> rw [e] <;> rfl
theorem rF {h n y l v : Nat} (e : iZ h n y l v = 0) : (h.testBit 0 = true → 1 ≤ n ∧ n ≤ 8) ∧ (h.testBit 0 = true → 1 ≤ y ∧ y ≤ 16) ∧ (h.testBit 2 = true → 1 ≤ l ∧ l ≤ 16) ∧ v ≤ 32 ∧
    (h.testBit 0 = false → n = 0) ∧ (h.testBit 1 = false → y = 0) ∧ (h.testBit 2 = false → l = 0) ∧ (h.testBit 3 = false → v = 0) := by
 unfold iZ at e
 split at e
 exact absurd e (by decide)
 split at e
 exact absurd e (by decide)
 split at e
 exact absurd e (by decide)
 split at e
 exact absurd e (by decide)
 split at e
 exact absurd e (by decide)
 rename_i q1 q2 q3 q4 q5
 refine ⟨fun hb => Decidable.byContradiction fun hn => q1 ⟨hb, hn⟩, fun hb => Decidable.byContradiction fun hn => q2 ⟨hb, hn⟩, fun hb => Decidable.byContradiction fun hn => q3 ⟨hb, hn⟩, by omega, fun hb => ?_, fun hb => ?_, fun hb => ?_, fun hb => ?_⟩
 exact Decidable.byContradiction fun hn => q5 (Or.inl ⟨by rw [hb]; decide, by omega⟩)
 exact Decidable.byContradiction fun hn => q5 (Or.inr (Or.inl ⟨by rw [hb]; decide, by omega⟩))
 exact Decidable.byContradiction fun hn => q5 (Or.inr (Or.inr (Or.inl ⟨by rw [hb]; decide, by omega⟩)))
 exact Decidable.byContradiction fun hn => q5 (Or.inr (Or.inr (Or.inr ⟨by rw [hb]; decide, by omega⟩)))
theorem Gs {k : Nat} (hk : 1 ≤ k ∧ k ≤ 8) {r : Rq} (h : uG k r.name.length r.key.length r.last.length r.value.length = 0) : FitsW (bH k) r := by
 obtain ⟨a1, a2, a3, a4, a5, a6, a7, a8⟩ := rF (h := bH k) h
 have hb := VB k hk
 have e0 : ∀ {l : By}, l.length = 0 → l = [] := fun h => List.eq_nil_of_length_eq_zero h
 refine ⟨⟨?_, fun q => e0 (a5 q)⟩, ⟨?_, fun q => e0 (a6 q)⟩, ⟨?_, fun q => e0 (a7 q)⟩, ⟨by omega, fun q => e0 (a8 q)⟩⟩
 cases e : (bH k).testBit 0
 have := a5 e; omega
 have := a1 e; omega
 cases e : (bH k).testBit 0
 have := a6 (hb.trans e); omega
 have := a2 e; omega
 cases e : (bH k).testBit 2
 have := a7 e; omega
 have := a3 e; omega
structure RqOk (k : Nat) (r : Rq) : Prop where
  kind : 1 ≤ k ∧ k ≤ 8
  fits : uG k r.name.length r.key.length r.last.length r.value.length = 0
def cR (k : Nat) (r : Rq) : By := b8 k :: JO (bH k) r
theorem RqOk.lens {k : Nat} {r : Rq} (h : RqOk k r) : r.name.length ≤ 8 ∧ r.key.length ≤ 16 ∧ r.last.length ≤ 16 ∧ r.value.length ≤ 32 := by
 obtain ⟨a1, a2, a3, a4, a5, a6, a7, a8⟩ := rF (h := bH k) h.fits
 have hb := VB k h.kind
 refine ⟨?_, ?_, ?_, a4⟩
 cases e : (bH k).testBit 0
 have := a5 e; omega
 have := a1 e; omega
 cases e : (bH k).testBit 0
 have := a6 (hb.trans e); omega
 have := a2 e; omega
 cases e : (bH k).testBit 2
 have := a7 e; omega
 have := a3 e; omega
theorem uI (c : Bool) (p : By) : (yU c p).length ≤ p.length + 1 := by
 cases c <;> simp [yU, dK]
theorem PU {k : Nat} {r : Rq} (h : RqOk k r) : (cR k r).length ≤ 77 := by
 obtain ⟨a1, a2, a3, a4⟩ := h.lens
 have := uI ((bH k).testBit 0) r.name
 have := uI ((bH k).testBit 1) r.key
 have := uI ((bH k).testBit 2) r.last
 have := uI ((bH k).testBit 3) r.value
 simp only [cR, JO, List.length_cons, List.length_append]
 omega
theorem Ka {k : Nat} (hk : 1 ≤ k ∧ k ≤ 8) {t : By} (hl : t.length < 4000) : wdE (b8 k :: t) = match oG (bH k) t with
    | none => 14
    | some p => if 0 < p.2.length then 4 else uG k p.1.name.length p.1.key.length p.1.last.length p.1.value.length := by
  unfold wdE
  rw [if_neg (by simp only [List.length_cons]; omega)]
  have e : (b8 k).toNat = k := mM (by omega)
  simp only [e]
  rw [if_neg (by omega)]
theorem vD {k : Nat} {r : Rq} (h : RqOk k r) : wdE (cR k r) = 0 ∧ wdR (cR k r) = (k, r) := by
 have hl := PU h
 have hd := YW (Gs h.kind h.fits) []
 rw [List.append_nil] at hd
 have he : wdE (cR k r) = 0 := by
  unfold cR at hl ⊢
  rw [Ka h.kind (by simp only [List.length_cons] at hl; omega), hd]
  simp only [List.length_nil]
  rw [if_neg (by omega)]
  exact h.fits
 have e : (b8 k).toNat = k := mM (by have := h.kind; omega)
 refine ⟨he, ?_⟩
 unfold wdR
 rw [if_pos he]
 unfold cR
 simp only [e, hd]
theorem PV {b : By} (h : wdE b = 0) : RqOk (wdR b).1 (wdR b).2 ∧ b = cR (wdR b).1 (wdR b).2 := by
 cases b with
 | nil => exact absurd h (by decide)
 | cons x t =>
  have hr : wdR (x :: t) = match oG (bH x.toNat) t with
    | none => (0, ⟨[], [], [], []⟩)
    | some p => (x.toNat, p.1) := by unfold wdR; rw [if_pos h]
  unfold wdE at h
  split at h
  exact absurd h (by decide)
  simp only at h
  split at h
  exact absurd h (by decide)
  rename_i hk
  cases hd : oG (bH x.toNat) t with
  | none => rw [hd] at h; simp at h
  | some p =>
   rw [hd] at h hr
   simp only at h hr
   split at h
   exact absurd h (by decide)
   rename_i hz
   rw [hr]
   have hi := (YX hd).1
   rw [List.eq_nil_of_length_eq_zero (by omega : p.2.length = 0), List.append_nil] at hi
   refine ⟨⟨by simp only; omega, h⟩, ?_⟩
   simp only [cR, TK]
   rw [← hi]
theorem Gt {b : By} (h : wdE b ≠ 0) : wdR b = (0, ⟨[], [], [], []⟩) := by unfold wdR; rw [if_neg h]
theorem kD {w : World} (h : Has w) {k : Nat} (hk : 1 ≤ k ∧ k ≤ 8) : w.cell? ⟨0, k, none⟩ = some (.int .i64 ((bH k : Nat) : Int)) := by
 have := h k (by simp [SN]; omega)
 rw [this]
 rcases (by omega : k = 1 ∨ k = 2 ∨ k = 3 ∨ k = 4 ∨ k = 5 ∨ k = 6 ∨ k = 7 ∨ k = 8) with rfl | rfl | rfl | rfl | rfl | rfl | rfl | rfl <;> rfl
theorem pT {h i : Nat} (e : h.testBit i = true) : h / 2 ^ i % 2 = 1 := by
 rw [Nat.testBit_eq_decide_div_mod_eq] at e
 exact of_decide_eq_true e
theorem uJ {h i : Nat} (e : h.testBit i = false) : h / 2 ^ i % 2 = 0 := by
 rw [Nat.testBit_eq_decide_div_mod_eq] at e
 have := of_decide_eq_false e
 omega
theorem fB {P : Program} {ρ : Operand → Value} {w : World} {d : Option Tmp} {t X E : TypeId} {n : Nat} {pos : String} {after : Array Edge} {guard : Option (Nat × Bool)} {x y : Operand} {cs : Array Value} {i : Nat} {v : Value} (hX : P.underlying X = some (.array n E)) (hs : (sizeOf E).run P w = .ok 1 w) (hx : ρ x = .agg cs) (hy : ρ y = .int .i64 i) (hi : i < n) (hb : (isAgg E).run P w = .ok false w) (hv : cs[i]? = some v) :
    (execOp ρ ⟨d, .index X x y, t, pos, after, guard⟩).run P w = .ok (.value v) w := by
 have h1 : (0 : Int) ≤ (i : Int) ∧ (i : Int) < (n : Int) := by omega
 simp [execOp, hx, hy, Instr.index, part, Sem.run_bind, run_underlying hX w, asIntOf, hs, h1, hb, hv, hi]
theorem fZ {P : Program} {ρ : Operand → Value} {w : World} {d : Option Tmp} {t X E : TypeId} {n : Nat} {pos : String} {after : Array Edge} {guard : Option (Nat × Bool)} {x y : Operand} {b i : Nat} (hX : P.underlying X = some (.array n E)) (hs : (sizeOf E).run P w = .ok 1 w) (hx : ρ x = .pointer (some ⟨b, 0, none⟩)) (hy : ρ y = .int .i64 i) (hi : i < n) :
    (execOp ρ ⟨d, .indexAddr X x y, t, pos, after, guard⟩).run P w = .ok (.value (.pointer (some ⟨b, i, none⟩))) w := by
 have hadd : (⟨b, 0, none⟩ : Addr).add (i * 1) = ⟨b, i, none⟩ := by rw [Addr.add_mid]; simp
 have hlt : (0 : Int) ≤ (i : Int) ∧ (i : Int) < (n : Int) := by omega
 have hlt' : ¬ ((i : Int) < 0 ∨ (n : Int) ≤ (i : Int)) := by omega
 simp only [Nat.mul_one] at hadd
 simp [execOp, hx, hy, Instr.indexAt, Instr.sureAddr, asIntOf, Sem.run_bind, Sem.run_pure, Result.andThen_ok, run_underlying hX w, hs, hadd, hlt, hi]
theorem iL {P : Program} {ρ : Operand → Value} {w : World} {d : Option Tmp} {t X Y : TypeId} {x y : Operand} {pos : String} {after : Array Edge} {guard : Option (Nat × Bool)} {m n : Nat} (hx : ρ x = .int .i64 (m : Int)) (hy : ρ y = .int .i64 (n : Int)) (hn : n ≤ 64) : (execOp ρ ⟨d, .binOp .shr X x y Y, t, pos, after, guard⟩).run P w = .ok (.value (.int .i64 ((m / 2 ^ n : Nat) : Int))) w := by
 have e : (eqGuard .shr X x y (.int .i64 (m : Int)) (.int .i64 (n : Int))).run P w = .ok () w := rfl
 have h : (binOp .shr X (.int .i64 (m : Int)) (.int .i64 (n : Int))).run P w = .ok (.int .i64 ((m / 2 ^ n : Nat) : Int)) w := by
  show (Op.shift .shr .i64 (m : Int) .i64 (n : Int)).run P w = _
  unfold Op.shift
  rw [if_neg (by omega)]
  show Result.ok (Value.int .i64 (Int.fdiv (m : Int) (2 ^ (min (n : Int).toNat 64)))) w = _
  rw [Int.toNat_natCast, Nat.min_eq_left hn, Int.fdiv_eq_ediv_of_nonneg _ (show (0 : Int) ≤ 2 ^ n from Int.le_of_lt (Int.pow_pos (by decide)))]
  simp
 simp only [execOp, hx, hy, Sem.run_bind, e, Result.andThen_ok, h, Sem.run_pure]
theorem fC {P : Program} {ρ : Operand → Value} {w : World} {d : Option Tmp} {t X Y : TypeId} {x y : Operand} {pos : String} {after : Array Edge} {guard : Option (Nat × Bool)} {m : Nat} (hx : ρ x = .int .i64 (m : Int)) (hy : ρ y = .int .i64 1) : (execOp ρ ⟨d, .binOp .and X x y Y, t, pos, after, guard⟩).run P w = .ok (.value (.int .i64 ((m % 2 : Nat) : Int))) w := by
 refine kQ hx hy ?_
 rw [eS _ (by simp)]
 show Result.ok (Value.int .i64 (IntKind.i64.wrap ((BitVec.ofInt 64 (m : Int) &&& BitVec.ofInt 64 (1 : Int)).toNat : Int))) w = _
 have h1 : (BitVec.ofInt 64 (m : Int) &&& BitVec.ofInt 64 (1 : Int)).toNat = m % 2 := by
  rw [BitVec.toNat_and, BitVec.ofInt_natCast, show BitVec.ofInt 64 (1 : Int) = 1#64 from rfl, BitVec.toNat_ofNat, show (1#64).toNat = 1 from rfl, Nat.and_one_is_mod]
  omega
 rw [h1, lY (by omega) (by omega)]
theorem mE (F : Fz) (w : World) (v : Value) (k : Nat) (r : Rq) (hh : Has w) (hv : AT F v k r.name r.key r.last r.value) (ok : RqOk k r) :
    Calls Tryz.prog 41 #[v] w (cU w (.int .i64 0)) := by
 have := uH F w v k r.name r.key r.last r.value ok.kind.1 ok.kind.2 hh hv
 rwa [ok.fits] at this
def Kl (b : By) (F : Fz) (u : Value) : Prop := ∃ x, u = .tuple #[x, .int .i64 0] ∧ Bs F x b
theorem jU {k : Nat} {r : Rq} (ok : RqOk k r) : ∀ i, i ≤ 4 → (iF (bH k) r i).length ≤ 33 * i := by
 obtain ⟨a1, a2, a3, a4⟩ := ok.lens
 intro i hi
 have h : ∀ j, j < 4 → (r.part j).length ≤ 32 := fun j hj => by
  rcases (by omega : j = 0 ∨ j = 1 ∨ j = 2 ∨ j = 3) with rfl | rfl | rfl | rfl
  ·exact Nat.le_trans a1 (by omega)
  ·exact Nat.le_trans a2 (by omega)
  ·exact Nat.le_trans a3 (by omega)
  ·exact a4
 clear a1 a2 a3 a4
 induction i with
 | zero => simp [iF]
 | succ i ih =>
  have := ih (by omega)
  have := h i (by omega)
  have := uI ((bH k).testBit i) (r.part i)
  simp only [iF, List.length_append]
  omega
theorem AU (F : Fz) (w : World) (v : Value) (k : Nat) (r : Rq) (hs : Sat w F) (hh : Has w) (hv : AT F v k r.name r.key r.last r.value) (ok : RqOk k r) :
    Calls Tryz.prog 31 #[v] w (dB w F (Kl (cR k r))) := by
 have hk := ok.kind
 obtain ⟨a1, a2, a3, a4⟩ := ok.lens
 obtain ⟨_, _, _, _, rfl, h0, h1, h2, h3⟩ := hv
 obtain ⟨x0, y0, rfl, _⟩ := h0.shape
 obtain ⟨x1, y1, rfl, _⟩ := h1.shape
 obtain ⟨x2, y2, rfl, _⟩ := h2.shape
 obtain ⟨x3, y3, rfl, _⟩ := h3.shape
 obtain ⟨i5, hi5, hz5, hs5, hb5⟩ := info_parts rK
 have S := St.start hs
 go_enter Tryz.func31, Tryz.ntmps31
 refine sk fun K1 hK1 => ?_
 refine bD S (v := fun n => .pointer (aA n 0)) rfl (cB (v := (.agg #[(nI k), (.slice x0 r.name.length y0), (.slice x1 r.key.length y1), (.slice x2 r.last.length y2), (.slice x3 r.value.length y3)])) rfl) (fun n2 w3 S4 => ?_)
 iterate 2 refine dy ?_
 refine wn hK1 ?_
 refine aE fun K5 hK5 => ?_
 refine sk fun K6 hK6 => ?_
 refine dR S4 0 Tryz.underlying27 (aY) ?_
 simp only [pq]
 refine aI (v := (iI 0)) S4 rfl (fn1 (KP _ _)) (mE _ _ _ k r (hh.below S4.gr.below) ⟨_, _, _, _, rfl, h0, h1, h2, h3⟩ ok) (fun w7 S8 => ?_)
 refine dy ?_
 refine wn hK6 ?_
 refine sk fun K9 hK9 => ?_
 refine dx ?_
 refine dr bF (cG (m := (0 : Int)) (n := (0 : Int)) (b := false) rfl rfl (bne_eq_false_iff_eq.2 (rfl))) ?_
 simp only [pq]
 refine wn hK9 ?_
 refine aF ?_
 refine aH ?_
 refine hK5 _ _ ?_
 refine sk fun g0 b7 => ?_
 refine aC ?_
 refine dr (bv (b8 k)) (bB (v := (nI k)) rfl (iY k _)) ?_
 simp only [pq]
 refine bD S8 (v := fun n => .slice (aA n 0) 1 1) rfl (bS (ps := #[(0, (bv (b8 k)))]) (cells := #[(bv (b8 k))]) (E := 5) (cH rfl) (fun w => by kernel_rfl)) (fun b9 e1 d2 => ?_)
 refine dy ?_
 refine wn b7 ?_
 refine aE fun g1 c0 => ?_
 refine sk fun g2 c1 => ?_
 refine aC ?_
 refine dr (.agg #[(.slice x0 r.name.length y0), (.slice x1 r.key.length y1), (.slice x2 r.last.length y2), (.slice x3 r.value.length y3)]) (aL (mN rfl rfl rfl rfl) (by kernel_rfl)) ?_
 simp only [pq]
 refine dx ?_
 refine wn c1 ?_
 refine aM ?_
 have e2 : St w F e1 F [⟨n2, [(nI k), (.slice x0 r.name.length y0), (.slice x1 r.key.length y1), (.slice x2 r.last.length y2), (.slice x3 r.value.length y3)], 27⟩] [bZ 1 ByC ByC.mono 5 w.heap.size (.slice (aA b9 0) 1 1) [b8 k]] := St.blkRow (k := 1) (l := [b8 k]) (el := [[(bv (b8 k))]]) (hR := ByC.mono) d2 rfl ⟨rfl, trivial⟩ (by simp) rfl (by simp) (by unfold maxLen; decide) (d2.blk _ (List.mem_cons_self ..)).2.2
 refine bA (fun mm aa e3 => ∃ (i : Nat) (v : Value) (a9 : Fz) (b1 : Nat → Value), mm = 4 - i ∧ b1 = dV aa ∧ aa = ⟨([(.agg #[(nI k), (.slice x0 r.name.length y0), (.slice x1 r.key.length y1), (.slice x2 r.last.length y2), (.slice x3 r.value.length y3)]), (pP n2 0), Zn, (iI 0), (iI 0), v, (b1 6), (b1 7), (.agg #[(nI k), (.slice x0 r.name.length y0), (.slice x1 r.key.length y1), (.slice x2 r.last.length y2), (.slice x3 r.value.length y3)]), (iI 0), (iI 0), bF, undef, (pP n2 0), (nI k), (bv (b8 k)), (.slice (aA b9 0) 1 1), (pP n2 1), (.slice x0 r.name.length y0), (pP n2 2), (.slice x1 r.key.length y1), (pP n2 3), (.slice x2 r.last.length y2), (pP n2 4), (.slice x3 r.value.length y3), (.agg #[(.slice x0 r.name.length y0), (.slice x1 r.key.length y1), (.slice x2 r.last.length y2), (.slice x3 r.value.length y3)]), (nI i)] ++ (usF b1 27 20 [undef])).toArray, []⟩ ∧ St w F e3 a9 [⟨n2, [(nI k), (.slice x0 r.name.length y0), (.slice x1 r.key.length y1), (.slice x2 r.last.length y2), (.slice x3 r.value.length y3)], 27⟩] [bZ 1 ByC ByC.mono 5 w.heap.size v (b8 k :: iF (bH k) r i)] ∧ Le F a9 ∧ (i ≤ 4)) _ ⟨0, (.slice (aA b9 0) 1 1), F, _, rfl, rfl, rfl, e2, Le.refl _, (by omega)⟩ ?_
 rintro g3 g4 g5 ⟨i, v, a9, b1, rfl, -, hfr, a5, a0, hi4⟩ g6 a6
 simp only [uzF, Nat.reduceAdd] at hfr; subst hfr
 refine sk fun g7 b2 => ?_
 by_cases e4 : i < 4
 ·refine eZ ?_
  refine wn b2 ?_
  refine aE fun g8 c2 => ?_
  refine aJ ?_
  refine aH ?_
  refine c2 _ _ ?_
  refine aE fun g9 a7 => ?_
  refine aM ?_
  refine aE fun h5 a8 => ?_
  rcases (by omega : i = 0 ∨ i = 1 ∨ i = 2 ∨ i = 3) with h4 | h4 | h4 | h4
  ·by_cases he : (bH k).testBit i = true
   ·have hx := pT he
    have hpl := jU ok i (by omega)
    refine aB ?_
    refine dx ?_
    refine dr (.slice x0 r.name.length y0) (fB (i := i) Tryz.underlying91 (iR _) rfl rfl (by omega) (bI _) (by rw [h4]; rfl)) ?_
    refine aC ?_
    refine wlK a8 ?_
    refine sk fun h6 c3 => ?_
    refine aC ?_
    refine dr (pP 0 k) (fZ (i := k) Tryz.underlying92 (eA _) rfl rfl (by omega)) ?_
    simp only [pq]
    refine dr _ (aD rfl (aW (bN _) (kD (hh.below a5.gr.below) hk))) ?_
    refine dx ?_
    refine dr (nI ((bH k) / 2 ^ i)) (iL (m := (bH k)) (n := i) rfl rfl (by omega)) ?_
    simp only [pq]
    refine dr (.int .i64 (((((bH k) / 2 ^ i) % 2) : Nat) : Int)) (fC (m := ((bH k) / 2 ^ i)) rfl rfl) ?_
    refine dr bT (cF (m := (((((bH k) / 2 ^ i) % 2) : Nat) : Int)) (n := (1 : Int)) (b := true) rfl rfl (beq_iff_eq.2 (by rw [hx]; rfl))) ?_
    refine wn c3 ?_
    refine aJ ?_
    refine aB ?_
    refine aC ?_
    refine dr (bv (b8 r.name.length)) (bB (v := (nI r.name.length)) rfl (iY r.name.length _)) ?_
    refine bD a5 (v := fun n => .slice (aA n 0) 1 1) rfl (bS (ps := #[(0, (bv (b8 r.name.length)))]) (cells := #[(bv (b8 r.name.length))]) (E := 5) (cH rfl) (fun w => by kernel_rfl)) (fun h7 h8 d3 => ?_)
    refine eN (i := 0) (r := 0) (p := (b8 r.name.length)) (cs := [(bv (b8 r.name.length))]) d3 rfl i5 (.int .u8 0) 1 Tryz.underlying25 hi5 hz5 hs5 hb5 rfl (by decide) rfl rfl rfl rfl rfl (sF (b8 r.name.length)) (rfl) (Nat.le_refl _) d3.gr.below.size (by unfold maxLen; simp only [List.length_cons, List.length_append]; omega) (by simp only [List.length_cons, List.length_append]; omega) ?_
    intro h9 i0 b3 e5
    simp only [pq]
    have b3 := St.drop b3 (.cons _ (List.Sublist.refl _))
    refine dx ?_
    refine eE (r := 0) (u := (.slice x0 r.name.length y0)) b3 rfl i5 (.int .u8 0) 1 Tryz.underlying25 hi5 hz5 hs5 hb5 rfl (by decide) rfl rfl rfl (Sl.toW (Bs.sl (h0.mono a0)) (b3).sat) ByC.one (Nat.le_refl _) b3.gr.below.size (by unfold maxLen; simp only [List.length_cons, List.length_append, List.length_nil]; omega) (by simp only [List.length_cons, List.length_append, List.length_nil]; omega) ?_
    intro e6 i1 d4 e7
    refine dy ?_
    refine wlK a7 ?_
    rw [show (((b8 k :: iF (bH k) r i) ++ [(b8 r.name.length)]) ++ r.name) = b8 k :: iF (bH k) r (i + 1) from by rw [sJ r he, h4]; simp [Rq.part]] at d4
    refine aB ?_
    refine cO (i + 1) ?_
    refine dx ?_
    simp only [pq]
    refine aG ?_
    exact a6 _ _ _ (by omega) ⟨(i + 1), e6, a9, _, rfl, rfl, rfl, d4, a0, (by omega)⟩
   ·have he : (bH k).testBit i = false := by simpa using he
    have hx := uJ he
    have hpl := jU ok i (by omega)
    refine aB ?_
    refine dx ?_
    refine dr (.slice x0 r.name.length y0) (fB (i := i) Tryz.underlying91 (iR _) rfl rfl (by omega) (bI _) (by rw [h4]; rfl)) ?_
    refine aC ?_
    refine wlK a8 ?_
    refine sk fun i2 c4 => ?_
    refine aC ?_
    refine dr (pP 0 k) (fZ (i := k) Tryz.underlying92 (eA _) rfl rfl (by omega)) ?_
    simp only [pq]
    refine dr _ (aD rfl (aW (bN _) (kD (hh.below a5.gr.below) hk))) ?_
    refine dx ?_
    refine dr (nI ((bH k) / 2 ^ i)) (iL (m := (bH k)) (n := i) rfl rfl (by omega)) ?_
    simp only [pq]
    refine dr (.int .i64 (((((bH k) / 2 ^ i) % 2) : Nat) : Int)) (fC (m := ((bH k) / 2 ^ i)) rfl rfl) ?_
    refine dr bF (cF (m := (((((bH k) / 2 ^ i) % 2) : Nat) : Int)) (n := (1 : Int)) (b := false) rfl rfl (beq_eq_false_iff_ne.2 (by rw [hx]; decide))) ?_
    refine wn c4 ?_
    refine aF ?_
    refine aH ?_
    refine a7 _ _ ?_
    rw [← vB r he] at a5
    refine aB ?_
    refine cO (i + 1) ?_
    refine dx ?_
    simp only [pq]
    refine aG ?_
    exact a6 _ _ _ (by omega) ⟨(i + 1), v, a9, _, rfl, rfl, rfl, a5, a0, (by omega)⟩
  ·by_cases he : (bH k).testBit i = true
   ·have hx := pT he
    have hpl := jU ok i (by omega)
    refine aB ?_
    refine dx ?_
    refine dr (.slice x1 r.key.length y1) (fB (i := i) Tryz.underlying91 (iR _) rfl rfl (by omega) (bI _) (by rw [h4]; rfl)) ?_
    refine aC ?_
    refine wlK a8 ?_
    refine sk fun i3 c5 => ?_
    refine aC ?_
    refine dr (pP 0 k) (fZ (i := k) Tryz.underlying92 (eA _) rfl rfl (by omega)) ?_
    simp only [pq]
    refine dr _ (aD rfl (aW (bN _) (kD (hh.below a5.gr.below) hk))) ?_
    refine dx ?_
    refine dr (nI ((bH k) / 2 ^ i)) (iL (m := (bH k)) (n := i) rfl rfl (by omega)) ?_
    simp only [pq]
    refine dr (.int .i64 (((((bH k) / 2 ^ i) % 2) : Nat) : Int)) (fC (m := ((bH k) / 2 ^ i)) rfl rfl) ?_
    refine dr bT (cF (m := (((((bH k) / 2 ^ i) % 2) : Nat) : Int)) (n := (1 : Int)) (b := true) rfl rfl (beq_iff_eq.2 (by rw [hx]; rfl))) ?_
    refine wn c5 ?_
    refine aJ ?_
    refine aB ?_
    refine aC ?_
    refine dr (bv (b8 r.key.length)) (bB (v := (nI r.key.length)) rfl (iY r.key.length _)) ?_
    refine bD a5 (v := fun n => .slice (aA n 0) 1 1) rfl (bS (ps := #[(0, (bv (b8 r.key.length)))]) (cells := #[(bv (b8 r.key.length))]) (E := 5) (cH rfl) (fun w => by kernel_rfl)) (fun i4 i6 d5 => ?_)
    refine eN (i := 0) (r := 0) (p := (b8 r.key.length)) (cs := [(bv (b8 r.key.length))]) d5 rfl i5 (.int .u8 0) 1 Tryz.underlying25 hi5 hz5 hs5 hb5 rfl (by decide) rfl rfl rfl rfl rfl (sF (b8 r.key.length)) (rfl) (Nat.le_refl _) d5.gr.below.size (by unfold maxLen; simp only [List.length_cons, List.length_append]; omega) (by simp only [List.length_cons, List.length_append]; omega) ?_
    intro i7 i8 b4 e8
    simp only [pq]
    have b4 := St.drop b4 (.cons _ (List.Sublist.refl _))
    refine dx ?_
    refine eE (r := 0) (u := (.slice x1 r.key.length y1)) b4 rfl i5 (.int .u8 0) 1 Tryz.underlying25 hi5 hz5 hs5 hb5 rfl (by decide) rfl rfl rfl (Sl.toW (Bs.sl (h1.mono a0)) (b4).sat) ByC.one (Nat.le_refl _) b4.gr.below.size (by unfold maxLen; simp only [List.length_cons, List.length_append, List.length_nil]; omega) (by simp only [List.length_cons, List.length_append, List.length_nil]; omega) ?_
    intro e9 i9 d6 f0
    refine dy ?_
    refine wlK a7 ?_
    rw [show (((b8 k :: iF (bH k) r i) ++ [(b8 r.key.length)]) ++ r.key) = b8 k :: iF (bH k) r (i + 1) from by rw [sJ r he, h4]; simp [Rq.part]] at d6
    refine aB ?_
    refine cO (i + 1) ?_
    refine dx ?_
    simp only [pq]
    refine aG ?_
    exact a6 _ _ _ (by omega) ⟨(i + 1), e9, a9, _, rfl, rfl, rfl, d6, a0, (by omega)⟩
   ·have he : (bH k).testBit i = false := by simpa using he
    have hx := uJ he
    have hpl := jU ok i (by omega)
    refine aB ?_
    refine dx ?_
    refine dr (.slice x1 r.key.length y1) (fB (i := i) Tryz.underlying91 (iR _) rfl rfl (by omega) (bI _) (by rw [h4]; rfl)) ?_
    refine aC ?_
    refine wlK a8 ?_
    refine sk fun j0 c6 => ?_
    refine aC ?_
    refine dr (pP 0 k) (fZ (i := k) Tryz.underlying92 (eA _) rfl rfl (by omega)) ?_
    simp only [pq]
    refine dr _ (aD rfl (aW (bN _) (kD (hh.below a5.gr.below) hk))) ?_
    refine dx ?_
    refine dr (nI ((bH k) / 2 ^ i)) (iL (m := (bH k)) (n := i) rfl rfl (by omega)) ?_
    simp only [pq]
    refine dr (.int .i64 (((((bH k) / 2 ^ i) % 2) : Nat) : Int)) (fC (m := ((bH k) / 2 ^ i)) rfl rfl) ?_
    refine dr bF (cF (m := (((((bH k) / 2 ^ i) % 2) : Nat) : Int)) (n := (1 : Int)) (b := false) rfl rfl (beq_eq_false_iff_ne.2 (by rw [hx]; decide))) ?_
    refine wn c6 ?_
    refine aF ?_
    refine aH ?_
    refine a7 _ _ ?_
    rw [← vB r he] at a5
    refine aB ?_
    refine cO (i + 1) ?_
    refine dx ?_
    simp only [pq]
    refine aG ?_
    exact a6 _ _ _ (by omega) ⟨(i + 1), v, a9, _, rfl, rfl, rfl, a5, a0, (by omega)⟩
  ·by_cases he : (bH k).testBit i = true
   ·have hx := pT he
    have hpl := jU ok i (by omega)
    refine aB ?_
    refine dx ?_
    refine dr (.slice x2 r.last.length y2) (fB (i := i) Tryz.underlying91 (iR _) rfl rfl (by omega) (bI _) (by rw [h4]; rfl)) ?_
    refine aC ?_
    refine wlK a8 ?_
    refine sk fun j1 c7 => ?_
    refine aC ?_
    refine dr (pP 0 k) (fZ (i := k) Tryz.underlying92 (eA _) rfl rfl (by omega)) ?_
    simp only [pq]
    refine dr _ (aD rfl (aW (bN _) (kD (hh.below a5.gr.below) hk))) ?_
    refine dx ?_
    refine dr (nI ((bH k) / 2 ^ i)) (iL (m := (bH k)) (n := i) rfl rfl (by omega)) ?_
    simp only [pq]
    refine dr (.int .i64 (((((bH k) / 2 ^ i) % 2) : Nat) : Int)) (fC (m := ((bH k) / 2 ^ i)) rfl rfl) ?_
    refine dr bT (cF (m := (((((bH k) / 2 ^ i) % 2) : Nat) : Int)) (n := (1 : Int)) (b := true) rfl rfl (beq_iff_eq.2 (by rw [hx]; rfl))) ?_
    refine wn c7 ?_
    refine aJ ?_
    refine aB ?_
    refine aC ?_
    refine dr (bv (b8 r.last.length)) (bB (v := (nI r.last.length)) rfl (iY r.last.length _)) ?_
    refine bD a5 (v := fun n => .slice (aA n 0) 1 1) rfl (bS (ps := #[(0, (bv (b8 r.last.length)))]) (cells := #[(bv (b8 r.last.length))]) (E := 5) (cH rfl) (fun w => by kernel_rfl)) (fun j2 j3 d7 => ?_)
    refine eN (i := 0) (r := 0) (p := (b8 r.last.length)) (cs := [(bv (b8 r.last.length))]) d7 rfl i5 (.int .u8 0) 1 Tryz.underlying25 hi5 hz5 hs5 hb5 rfl (by decide) rfl rfl rfl rfl rfl (sF (b8 r.last.length)) (rfl) (Nat.le_refl _) d7.gr.below.size (by unfold maxLen; simp only [List.length_cons, List.length_append]; omega) (by simp only [List.length_cons, List.length_append]; omega) ?_
    intro j4 j5 b5 f1
    simp only [pq]
    have b5 := St.drop b5 (.cons _ (List.Sublist.refl _))
    refine dx ?_
    refine eE (r := 0) (u := (.slice x2 r.last.length y2)) b5 rfl i5 (.int .u8 0) 1 Tryz.underlying25 hi5 hz5 hs5 hb5 rfl (by decide) rfl rfl rfl (Sl.toW (Bs.sl (h2.mono a0)) (b5).sat) ByC.one (Nat.le_refl _) b5.gr.below.size (by unfold maxLen; simp only [List.length_cons, List.length_append, List.length_nil]; omega) (by simp only [List.length_cons, List.length_append, List.length_nil]; omega) ?_
    intro f2 j6 d8 f3
    refine dy ?_
    refine wlK a7 ?_
    rw [show (((b8 k :: iF (bH k) r i) ++ [(b8 r.last.length)]) ++ r.last) = b8 k :: iF (bH k) r (i + 1) from by rw [sJ r he, h4]; simp [Rq.part]] at d8
    refine aB ?_
    refine cO (i + 1) ?_
    refine dx ?_
    simp only [pq]
    refine aG ?_
    exact a6 _ _ _ (by omega) ⟨(i + 1), f2, a9, _, rfl, rfl, rfl, d8, a0, (by omega)⟩
   ·have he : (bH k).testBit i = false := by simpa using he
    have hx := uJ he
    have hpl := jU ok i (by omega)
    refine aB ?_
    refine dx ?_
    refine dr (.slice x2 r.last.length y2) (fB (i := i) Tryz.underlying91 (iR _) rfl rfl (by omega) (bI _) (by rw [h4]; rfl)) ?_
    refine aC ?_
    refine wlK a8 ?_
    refine sk fun j7 c8 => ?_
    refine aC ?_
    refine dr (pP 0 k) (fZ (i := k) Tryz.underlying92 (eA _) rfl rfl (by omega)) ?_
    simp only [pq]
    refine dr _ (aD rfl (aW (bN _) (kD (hh.below a5.gr.below) hk))) ?_
    refine dx ?_
    refine dr (nI ((bH k) / 2 ^ i)) (iL (m := (bH k)) (n := i) rfl rfl (by omega)) ?_
    simp only [pq]
    refine dr (.int .i64 (((((bH k) / 2 ^ i) % 2) : Nat) : Int)) (fC (m := ((bH k) / 2 ^ i)) rfl rfl) ?_
    refine dr bF (cF (m := (((((bH k) / 2 ^ i) % 2) : Nat) : Int)) (n := (1 : Int)) (b := false) rfl rfl (beq_eq_false_iff_ne.2 (by rw [hx]; decide))) ?_
    refine wn c8 ?_
    refine aF ?_
    refine aH ?_
    refine a7 _ _ ?_
    rw [← vB r he] at a5
    refine aB ?_
    refine cO (i + 1) ?_
    refine dx ?_
    simp only [pq]
    refine aG ?_
    exact a6 _ _ _ (by omega) ⟨(i + 1), v, a9, _, rfl, rfl, rfl, a5, a0, (by omega)⟩
  ·by_cases he : (bH k).testBit i = true
   ·have hx := pT he
    have hpl := jU ok i (by omega)
    refine aB ?_
    refine dx ?_
    refine dr (.slice x3 r.value.length y3) (fB (i := i) Tryz.underlying91 (iR _) rfl rfl (by omega) (bI _) (by rw [h4]; rfl)) ?_
    refine aC ?_
    refine wlK a8 ?_
    refine sk fun j8 c9 => ?_
    refine aC ?_
    refine dr (pP 0 k) (fZ (i := k) Tryz.underlying92 (eA _) rfl rfl (by omega)) ?_
    simp only [pq]
    refine dr _ (aD rfl (aW (bN _) (kD (hh.below a5.gr.below) hk))) ?_
    refine dx ?_
    refine dr (nI ((bH k) / 2 ^ i)) (iL (m := (bH k)) (n := i) rfl rfl (by omega)) ?_
    simp only [pq]
    refine dr (.int .i64 (((((bH k) / 2 ^ i) % 2) : Nat) : Int)) (fC (m := ((bH k) / 2 ^ i)) rfl rfl) ?_
    refine dr bT (cF (m := (((((bH k) / 2 ^ i) % 2) : Nat) : Int)) (n := (1 : Int)) (b := true) rfl rfl (beq_iff_eq.2 (by rw [hx]; rfl))) ?_
    refine wn c9 ?_
    refine aJ ?_
    refine aB ?_
    refine aC ?_
    refine dr (bv (b8 r.value.length)) (bB (v := (nI r.value.length)) rfl (iY r.value.length _)) ?_
    refine bD a5 (v := fun n => .slice (aA n 0) 1 1) rfl (bS (ps := #[(0, (bv (b8 r.value.length)))]) (cells := #[(bv (b8 r.value.length))]) (E := 5) (cH rfl) (fun w => by kernel_rfl)) (fun j9 k0 d9 => ?_)
    refine eN (i := 0) (r := 0) (p := (b8 r.value.length)) (cs := [(bv (b8 r.value.length))]) d9 rfl i5 (.int .u8 0) 1 Tryz.underlying25 hi5 hz5 hs5 hb5 rfl (by decide) rfl rfl rfl rfl rfl (sF (b8 r.value.length)) (rfl) (Nat.le_refl _) d9.gr.below.size (by unfold maxLen; simp only [List.length_cons, List.length_append]; omega) (by simp only [List.length_cons, List.length_append]; omega) ?_
    intro k1 k2 b6 f4
    simp only [pq]
    have b6 := St.drop b6 (.cons _ (List.Sublist.refl _))
    refine dx ?_
    refine eE (r := 0) (u := (.slice x3 r.value.length y3)) b6 rfl i5 (.int .u8 0) 1 Tryz.underlying25 hi5 hz5 hs5 hb5 rfl (by decide) rfl rfl rfl (Sl.toW (Bs.sl (h3.mono a0)) (b6).sat) ByC.one (Nat.le_refl _) b6.gr.below.size (by unfold maxLen; simp only [List.length_cons, List.length_append, List.length_nil]; omega) (by simp only [List.length_cons, List.length_append, List.length_nil]; omega) ?_
    intro f5 k3 e0 f6
    refine dy ?_
    refine wlK a7 ?_
    rw [show (((b8 k :: iF (bH k) r i) ++ [(b8 r.value.length)]) ++ r.value) = b8 k :: iF (bH k) r (i + 1) from by rw [sJ r he, h4]; simp [Rq.part]] at e0
    refine aB ?_
    refine cO (i + 1) ?_
    refine dx ?_
    simp only [pq]
    refine aG ?_
    exact a6 _ _ _ (by omega) ⟨(i + 1), f5, a9, _, rfl, rfl, rfl, e0, a0, (by omega)⟩
   ·have he : (bH k).testBit i = false := by simpa using he
    have hx := uJ he
    have hpl := jU ok i (by omega)
    refine aB ?_
    refine dx ?_
    refine dr (.slice x3 r.value.length y3) (fB (i := i) Tryz.underlying91 (iR _) rfl rfl (by omega) (bI _) (by rw [h4]; rfl)) ?_
    refine aC ?_
    refine wlK a8 ?_
    refine sk fun k4 d0 => ?_
    refine aC ?_
    refine dr (pP 0 k) (fZ (i := k) Tryz.underlying92 (eA _) rfl rfl (by omega)) ?_
    simp only [pq]
    refine dr _ (aD rfl (aW (bN _) (kD (hh.below a5.gr.below) hk))) ?_
    refine dx ?_
    refine dr (nI ((bH k) / 2 ^ i)) (iL (m := (bH k)) (n := i) rfl rfl (by omega)) ?_
    simp only [pq]
    refine dr (.int .i64 (((((bH k) / 2 ^ i) % 2) : Nat) : Int)) (fC (m := ((bH k) / 2 ^ i)) rfl rfl) ?_
    refine dr bF (cF (m := (((((bH k) / 2 ^ i) % 2) : Nat) : Int)) (n := (1 : Int)) (b := false) rfl rfl (beq_eq_false_iff_ne.2 (by rw [hx]; decide))) ?_
    refine wn d0 ?_
    refine aF ?_
    refine aH ?_
    refine a7 _ _ ?_
    rw [← vB r he] at a5
    refine aB ?_
    refine cO (i + 1) ?_
    refine dx ?_
    simp only [pq]
    refine aG ?_
    exact a6 _ _ _ (by omega) ⟨(i + 1), v, a9, _, rfl, rfl, rfl, a5, a0, (by omega)⟩
 ·refine eT ?_
  refine wn b2 ?_
  refine aE fun k5 f7 => ?_
  refine aF ?_
  refine cV ?_
  refine c0 _ _ ?_
  refine sk fun k6 d1 => ?_
  refine aC ?_
  refine wn d1 ?_
  refine aP ?_
  try simp only [xt]
  refine bR (cC rfl (gD rfl) (gD rfl)) ?_
  ·have hi5 : i = 4 := by omega
   subst hi5
   rw [SP] at a5
   obtain ⟨k7, f8, f9, b0⟩ := St.freeze a5 (i := 0) rfl (Nat.le_refl _)
   have b0 : Bys _ v (b8 k :: JO (bH k) r) := b0
   exact ⟨_, _, rfl, f8.gr, _, rfl, eU b0⟩
end Go.Proofs.YtilgpdpooildcaaGreatDoor
