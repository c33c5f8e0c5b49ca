/- Rules, plain laws and walks: X6 H1 TP1 TP2 TP3 TP4 T0 D1 DG1 DG2 DG3 -/
import Derived.Test.YtilgpdpooildcaaGreatDoorDA6
import Derived.Test.YtilgpdpooildcaaGreatDoorDA2
import Derived.Test.YtilgpdpooildcaaGreatDoorDA3
import Derived.Test.YtilgpdpooildcaaGreatDoorDA5
import Derived.Test.YtilgpdpooildcaaGreatDoorCards
import Derived.Test.YtilgpdpooildcaaGreatDoorTie
import Derived.WalkKit
import Derived.ProofKit
import Derived.OpenShut
import Derived.Deep.DeepHandedRow
import Derived.Lib.LaidTab
import Derived.Lib.SmallJoins
import Derived.Test.YtilgpdpooildcaaGreatDoorDA1
import Derived.Deep.QuietTactic
import Derived.BigQuiet
import Derived.StillTailTactics
import Derived.Deep.MidRow
namespace Go.Proofs.YtilgpdpooildcaaGreatDoor
set_option maxHeartbeats 8000000
open Go.RowKit
set_option maxRecDepth 100000
set_option linter.unusedVariables false
set_option linter.unusedSimpArgs false
def Fw (o : Option By) (b : Bool) (e : Int) (F : Fz) (u : Value) : Prop := ∃ x, u = .tuple #[x, .bool b, .int .i64 e] ∧ FndV F x o
def FdV (F : Fz) (u : Value) (b : Bool) (l : By) : Prop := ∃ a c, u = .agg #[.bool b, .slice a l.length c] ∧ Bs F (.slice a l.length c) l
theorem FdV.dropF {w : World} {F : Fz} {n : Nat} {cs : List Value} {T : TypeId} (hs : Sat w F) (hb : w.heap[n]? = some (.cells cs.toArray T (0, 0))) (hc : ∀ u ∈ cs, ∀ x, u ≠ bv x) {v : Value} {b : Bool} {l : By} (h : FdV F v b l) : FdV (Proofs.YtilgpdpooildcaaGreatDoor.dropF F n) v b l := by
 obtain ⟨a, c, rfl, h1⟩ := h
 exact ⟨a, c, rfl, h1.dropF hs hb hc⟩
theorem FdV.fnd {F : Fz} {u : Value} {p : Wr} (h : FdV F u (!p.gone) p.value) (hp : WrOk p) : FndV F u (if p.gone then none else some p.value) := by
 obtain ⟨a, c, rfl, h1⟩ := h
 cases hg : p.gone with
 | true =>
  have := hp.gone hg
  rw [this] at h1
  refine ⟨a, c, by rw [this]; rfl, h1⟩
 | false => exact ⟨a, c, rfl, h1⟩
theorem YX {α : Type} {l : List α} {g : α → Bool} {k : Nat} {p : α} (hp : l[k]? = some p) (h : (l.take k).any g = false) (hg : g p = true) : l.find? g = some p := by
 obtain ⟨hk, rfl⟩ := List.getElem?_eq_some_iff.1 hp
 rw [List.find?_eq_some_iff_getElem]
 exact ⟨hg, k, hk, rfl, fun j hj => by rw [tO.1 h j _ hj (List.getElem?_eq_getElem (by omega))]; rfl⟩
theorem Eg {α : Type} {l : List α} {g : α → Bool} (h : l.any g = false) : l.find? g = none := by
 rw [List.find?_eq_none]
 intro x hx
 have := List.any_eq_false.1 h x hx
 simpa using this
theorem VE (F : Fz) (w : World) (u v y z : Value) (l : aP) (t : Tx) (n k : By) (hs : Sat w F) (hl : Tns F u l) (hv : TxV F v t) (hn : Bs F y n) (hk : Bs F z k) (hf : ForestOk 60 l) (ht : TxOk t) (hnn : 1 ≤ n.length ∧ n.length ≤ 8) (hkk : 1 ≤ k.length ∧ k.length ≤ 16) :
    Calls Tryz.prog 89 #[u, v, y, z] w (dB w F (Fw (cM l t n k).1 (cM l t n k).2 0)) := by
 obtain ⟨a, c, rfl, hc1, hc2⟩ := Sl.shape hl
 unfold maxLen at hc2
 obtain ⟨x0, y0, x1, y1, rfl, h0, h1⟩ := hv
 obtain ⟨_, _, e0, q0, q1⟩ := Sl.shape h0
 obtain ⟨_, _, e1, q2, q3⟩ := Sl.shape h1
 injection e0 with _ _ e0
 injection e1 with _ _ e1
 subst e0 e1
 unfold maxLen at q1 q3
 obtain ⟨a2, c2, rfl, _⟩ := hn.shape
 obtain ⟨a3, c3, rfl, _⟩ := hk.shape
 have hb0 := NT.2 ⟨hf, ht⟩
 have hbw := fun r hr => (ht.writes r hr).small
 have S := St.start hs
 go_enter Tryz.func89, Tryz.ntmps89
 refine sk fun K1 hK1 => ?_
 refine bA S (v := fun n => .pointer (aA n 0)) rfl (bZ (v := (.agg #[(.int .i64 t.start), (.slice x0 t.reads.length y0), (.slice x1 t.writes.length y1)])) rfl) (fun n2 w3 S4 => ?_)
 refine sA S4 (kG _) fun n5 w6 S7 => ?_
 refine aC ?_
 refine wn hK1 ?_
 refine aE fun K8 hK8 => ?_
 refine sk fun K9 hK9 => ?_
 refine dx ?_
 refine dR S7 1 Tryz.underlying141 (aX) ?_
 refine aI (v := (.int .i64 (oR l t))) S7 rfl (fn2 (SN _ _)) (HR _ _ _ _ l t (S7).sat hl ⟨_, _, _, _, rfl, h0, h1⟩ hbw) (fun h4 d7 => ?_)
 refine dy ?_
 simp only [pq]
 refine wn hK9 ?_
 refine sk fun h5 b3 => ?_
 refine dx ?_
 refine dr bF (cG (m := (oR l t)) (n := (0 : Int)) (b := false) rfl rfl (bne_eq_false_iff_eq.2 (hb0))) ?_
 refine wn b3 ?_
 refine aF ?_
 refine aH ?_
 refine hK8 _ _ ?_
 refine sk fun h6 b4 => ?_
 refine aC ?_
 refine aQ d7 rfl (fn3 (PX _ _)) (yL _ _ _ _ _ l n k (d7).sat hl hn hk hf hnn hkk) ?_
 intro h7 h8 d8 e8 a4 e9
 obtain ⟨_, rfl, a8, a9, rfl, b5⟩ := e9
 have b5 : Bs _ (.slice a8 ((kT l n k).getD []).length a9) ((kT l n k).getD []) := b5
 refine aC ?_
 refine sA e8 (kG _) fun d9 h9 f0 => ?_
 refine sW 0 f0 (fQ) fun i0 f1 => ?_
 refine dy ?_
 simp only [pq]
 refine wn b4 ?_
 refine aE fun i1 b6 => ?_
 refine sk fun i2 b7 => ?_
 refine dx ?_
 refine dr bF (cG (b := false) rfl rfl (by decide)) ?_
 refine wn b7 ?_
 refine aF ?_
 refine aH ?_
 refine b6 _ _ ?_
 refine aE fun i3 b9 => ?_
 refine sk fun i4 c0 => ?_
 refine aC ?_
 refine wn c0 ?_
 refine aM ?_
 refine bC (fun mm aa f2 => ∃ (i : Nat) (b0 : Fz) (a7 : Nat → Value), mm = t.writes.length - i ∧ a7 = eI aa ∧ aa = ⟨([(.slice a l.length c), (.agg #[(.int .i64 t.start), (.slice x0 t.reads.length y0), (.slice x1 t.writes.length y1)]), (.slice a2 n.length c2), (.slice a3 k.length c3), undef, (pP n2 0), undef, undef, (pP n5 0), (a7 9), (a7 10), (.int .i64 (oR l t)), (pP d9 0), (iI 0), undef, (a7 15), (.slice a l.length c), (.agg #[(.int .i64 t.start), (.slice x0 t.reads.length y0), (.slice x1 t.writes.length y1)]), (.int .i64 (oR l t)), (.int .i64 (oR l t)), bF, undef, undef, (.tuple #[(.agg #[(.bool (kT l n k).isSome), (.slice a8 ((kT l n k).getD []).length a9)]), (iI 0)]), (.slice a l.length c), (.slice a2 n.length c2), (.slice a3 k.length c3), (.tuple #[(.agg #[(.bool (kT l n k).isSome), (.slice a8 ((kT l n k).getD []).length a9)]), (iI 0)]), (.agg #[(.bool (kT l n k).isSome), (.slice a8 ((kT l n k).getD []).length a9)]), (iI 0), (iI 0), bF, undef, undef, (pP n2 2), (.slice x1 t.writes.length y1), (nI t.writes.length), (nI i)] ++ (usF a7 38 16 [undef])).toArray, []⟩ ∧ St w F f2 b0 [⟨d9, [(.bool (kT l n k).isSome), (.slice a8 ((kT l n k).getD []).length a9)], 72⟩, ⟨n5, [bF, Zn], 72⟩, ⟨n2, [(.int .i64 t.start), (.slice x0 t.reads.length y0), (.slice x1 t.writes.length y1)], 141⟩] [] ∧ Le d8 b0 ∧ (i ≤ t.writes.length) ∧ ((t.writes.take i).any (fun w : Wr => cZ w (⟨n, k, false, ([] : By)⟩ : Wr)) = false)) _ ⟨0, d8, _, rfl, rfl, rfl, f1, Le.refl _, (by omega), rfl⟩ ?_
 rintro i5 i6 i7 ⟨i, b0, a7, rfl, -, hfr, a5, a0, hi, hno⟩ i8 c1
 simp only [uzF, Nat.reduceAdd] at hfr; subst hfr
 refine sk fun i9 b1 => ?_
 by_cases c4 : i < t.writes.length
 refine fJ ?_
 refine wn b1 ?_
 refine aE fun j0 c5 => ?_
 refine aL ?_
 refine aH ?_
 refine c5 _ _ ?_
 refine aE fun j1 c6 => ?_
 refine aM ?_
 refine aE fun j2 c7 => ?_
 obtain ⟨p, hp⟩ : ∃ p, t.writes[i]? = some p := ⟨t.writes[i], List.getElem?_eq_getElem c4⟩
 have hpo := ht.writes p (List.mem_of_getElem? hp)
 have hps := hpo.small
 obtain ⟨f3, f4, c8, f5, f6, f7, f8, c9, d0, f9, g0, g1, g2, g3, g4, e2⟩ := Wrs.get (h1.mono (a4.trans a0)) hp
 refine aB ?_
 refine dr (pP f3 (f4 + i * 4)) (bO (i := i) (sz := 4) Tryz.underlying40 (fH _) rfl c8 rfl (by omega) rfl) ?_
 refine dr _ (aD rfl (cT Tryz.underlying39 rfl (cD) (eR (St.fz a5 f9) (St.fz a5 g0) (St.fz a5 g1) (St.fz a5 g2)))) ?_
 simp only [pq]
 refine sA a5 (mF _) fun j3 j4 g5 => ?_
 refine sW 0 g5 (cD) fun j5 d1 => ?_
 refine wlK c7 ?_
 refine sk fun j6 d2 => ?_
 refine dR d1 0 Tryz.underlying39 (cD) ?_
 refine aC ?_
 refine dr (.agg #[(.slice a2 n.length c2), (.slice a3 k.length c3), bF, Zn]) (aK (fV rfl rfl) (by kernel_rfl)) ?_
 refine aI (v := (.bool (cZ p (⟨n, k, false, ([] : By)⟩ : Wr)))) d1 rfl (fn2 (JJ _ _)) (oP _ _ _ _ p (⟨n, k, false, ([] : By)⟩ : Wr) (d1).sat ⟨_, _, _, _, _, _, rfl, g3, g4, e2⟩ ⟨_, _, _, _, _, _, rfl, (hn.mono (a4.trans a0)), (hk.mono (a4.trans a0)), (Bs.nil _)⟩) (fun j7 a1 => ?_)
 refine wn d2 ?_
 refine wp_cond_split rfl (fun a6 => ?_) (fun a6 => ?_)
 refine aE fun j8 d3 => ?_
 refine aS b0 6 [(5, .made (fun F' u => Bs F' u p.value))] (by kernel_rfl) (by kernel_rfl) ?_
 simp only [dC]
 refine gf (AO _ _) ?_
 refine gl iA a1 0 ?_
 simp only [pq]
 refine gv (.bool (!p.gone)) (fun _ _ => CA rfl rfl) ?_
 refine gf (JC _ _) ?_
 refine gl bH a1 0 ?_
 simp only [pq]
 refine dA rfl rfl (fun j9 e3 hF => bK (cK (vs := #[(.slice c9 p.value.length d0)]) (mV rfl) rfl (gI _ _)) (cP a1.sat e3 (cY _ _ _ p.value ((St.tells a1 e3)).sat e2 (by omega)))) (fun k0 => ?_)
 refine cA ?_
 intro k1 g6 b2
 obtain ⟨g7, e4, g8⟩ := b2.get 5 rfl rfl
 have g9 := St.gives a1 e4
 have h2 : Le _ _ := e4.le a1.sat
 have e5 := g8
 generalize g7 = k2 at *
 obtain ⟨d4, d5, rfl, _⟩ := e5.shape
 clear b2
 simp only [dD]
 refine dr (.agg #[(.bool (!p.gone)), (.slice d4 p.value.length d5)]) (aK (fV rfl rfl) (by kernel_rfl)) ?_
 simp only [pq]
 refine sW 2 g9 (fQ) fun k3 e6 => ?_
 refine aC ?_
 refine wlK d3 ?_
 refine aN ?_
 try simp only [xt]
 refine bR (IS rfl ⟨_, rfl, lR e6 2 Tryz.underlying72 (fQ)⟩ (gD rfl) (gD rfl)) ?_
 have ho : Gf t.writes n k = some p := YX hp hno a6
 have hx : cM l t n k = (if p.gone then none else some p.value, true) := by unfold cM; rw [ho]
 rw [hx]
 exact ⟨_, _, rfl, e6.gr, _, rfl, FdV.fnd ⟨_, _, rfl, e5⟩ hpo⟩
 refine aH ?_
 refine c6 _ _ ?_
 refine aB ?_
 refine cR (i + 1) ?_
 refine dx ?_
 refine aG ?_
 have a1 := St.drop a1 (.cons _ (List.Sublist.refl _))
 exact c1 _ _ _ (by omega) ⟨(i + 1), b0, _, rfl, rfl, rfl, a1, a0, (by omega), (xG hp hno (by simpa using a6))⟩
 refine fC ?_
 simp only [pq]
 refine wn b1 ?_
 refine aE fun k4 h3 => ?_
 refine aF ?_
 refine dF ?_
 refine b9 _ _ ?_
 refine sk fun k5 d6 => ?_
 refine dR a5 0 Tryz.underlying72 (fQ) ?_
 refine sW 1 a5 (fQ) fun k6 e7 => ?_
 refine aC ?_
 refine wn d6 ?_
 refine aN ?_
 try simp only [xt]
 refine bR (IS rfl ⟨_, rfl, lR e7 1 Tryz.underlying72 (fQ)⟩ (gD rfl) (gD rfl)) ?_
 have ho : Gf t.writes n k = none := Eg (KM (by omega) hno)
 have hx : cM l t n k = (kT l n k, false) := by unfold cM; rw [ho]
 rw [hx]
 exact ⟨_, _, rfl, e7.gr, _, rfl, _, _, rfl, (b5.mono a0)⟩
theorem AX {ws : List Wr} {i : Nat} {p : Wr} (hp : ws[i]? = some p) (n a b : By) (m : List Pr) : iJ n a b m (ws.drop i) = match qE n a b m p with | some x => iJ n a b x (ws.drop (i + 1)) | none => none := by
 obtain ⟨hi, rfl⟩ := List.getElem?_eq_some_iff.1 hp
 rw [List.drop_eq_getElem_cons hi]
 rfl
theorem yQ {ws : List Wr} {i : Nat} {p : Wr} {n a b : By} {m : List Pr} {o : Option (List Pr)} (hp : ws[i]? = some p) (hr : inR n a b p = false) (h : iJ n a b m (ws.drop i) = o) : iJ n a b m (ws.drop (i + 1)) = o := by
 rw [AX hp] at h
 unfold qE at h
 rw [if_neg (by simp [hr])] at h
 exact h
theorem YY {ws : List Wr} {i : Nat} {p : Wr} {n a b : By} {m : List Pr} {o : Option (List Pr)} (hp : ws[i]? = some p) (hr : inR n a b p = true) (hg : p.gone = true) (h : iJ n a b m (ws.drop i) = o) : iJ n a b (gM m p.key) (ws.drop (i + 1)) = o := by
 rw [AX hp] at h
 unfold qE at h
 rw [if_pos hr, if_neg (by simp [hg]), nS hg] at h
 exact h
theorem YZ {ws : List Wr} {i : Nat} {p : Wr} {n a b : By} {m : List Pr} {o : Option (List Pr)} (hp : ws[i]? = some p) (hr : inR n a b p = true) (hg : p.gone = false) (hl : ¬ 60 < (eQ m p.key p.value).length) (h : iJ n a b m (ws.drop i) = o) : iJ n a b (eQ m p.key p.value) (ws.drop (i + 1)) = o := by
 rw [AX hp] at h
 unfold qE at h
 rw [if_pos hr, lF hg, if_neg (fun k => hl k.2)] at h
 exact h
theorem VF {ws : List Wr} {i : Nat} {p : Wr} {n a b : By} {m : List Pr} {o : Option (List Pr)} (hp : ws[i]? = some p) (hr : inR n a b p = true) (hg : p.gone = false) (hl : 60 < (eQ m p.key p.value).length) (h : iJ n a b m (ws.drop i) = o) : none = o := by
 rw [AX hp] at h
 unfold qE at h
 rw [if_pos hr, lF hg, if_pos ⟨hg, hl⟩] at h
 exact h
def Im (o : Option (List Pr)) (F : Fz) (u : Value) : Prop := match o with
  | some R => PrsE R 0 F u
  | none => PrsE [] 11 F u
theorem QU (F : Fz) (w : World) (u v y z x : Value) (l : aP) (t : Tx) (n k j : By) (hs : Sat w F) (hl : Tns F u l) (hv : TxV F v t) (hn : Bs F y n) (hk : Bs F z k) (hj : Bs F x j) (hf : ForestOk 60 l) (ht : TxOk t) (hnn : 1 ≤ n.length ∧ n.length ≤ 8) (hkk : 1 ≤ k.length ∧ k.length ≤ 16) (hjj : 1 ≤ j.length ∧ j.length ≤ 16) :
    Calls Tryz.prog 91 #[u, v, y, z, x] w (dB w F (Im (MK l t n k j))) := by
 obtain ⟨a, c, rfl, hc1, hc2⟩ := Sl.shape hl
 unfold maxLen at hc2
 obtain ⟨x0, y0, x1, y1, rfl, h0, h1⟩ := hv
 obtain ⟨_, _, e0, q0, q1⟩ := Sl.shape h0
 obtain ⟨_, _, e1, q2, q3⟩ := Sl.shape h1
 injection e0 with _ _ e0
 injection e1 with _ _ e1
 subst e0 e1
 unfold maxLen at q1 q3
 obtain ⟨a2, c2, rfl, _⟩ := hn.shape
 obtain ⟨a3, c3, rfl, _⟩ := hk.shape
 obtain ⟨a4, c4, rfl, _⟩ := hj.shape
 have hb0 := NT.2 ⟨hf, ht⟩
 have hbw := fun r hr => (ht.writes r hr).small
 have hnw := ht.nw
 obtain ⟨o, ho⟩ : ∃ o, MK l t n k j = o := ⟨_, rfl⟩
 rw [ho]
 have hsc : iJ n k j (gN (bD l n) k j) (t.writes.drop 0) = o := ho
 have S := St.start hs
 go_enter Tryz.func91, Tryz.ntmps91
 refine sk fun K1 hK1 => ?_
 refine bA S (v := fun n => .pointer (aA n 0)) rfl (bZ (v := (.agg #[(.int .i64 t.start), (.slice x0 t.reads.length y0), (.slice x1 t.writes.length y1)])) rfl) (fun n2 w3 S4 => ?_)
 iterate 2 refine dy ?_
 refine wn hK1 ?_
 refine aE fun K5 hK5 => ?_
 refine sk fun K6 hK6 => ?_
 refine dx ?_
 refine dR S4 0 Tryz.underlying141 (aX) ?_
 simp only [pq]
 refine aI (v := (.int .i64 (oR l t))) S4 rfl (fn2 (SN _ _)) (HR _ _ _ _ l t (S4).sat hl ⟨_, _, _, _, rfl, h0, h1⟩ hbw) (fun w7 S8 => ?_)
 refine dy ?_
 refine wn hK6 ?_
 refine sk fun K9 hK9 => ?_
 refine dx ?_
 refine dr bF (cG (m := (oR l t)) (n := (0 : Int)) (b := false) rfl rfl (bne_eq_false_iff_eq.2 (hb0))) ?_
 simp only [pq]
 refine wn hK9 ?_
 refine aF ?_
 refine aH ?_
 refine hK5 _ _ ?_
 refine sk fun k3 d9 => ?_
 refine aC ?_
 refine aQ S8 rfl (fn4 (Dl _ _)) (NH _ _ _ _ _ _ l n k j (S8).sat hl hn hk hj hf hnn hkk hjj) ?_
 intro k4 k5 g3 h3 a1 h4
 obtain ⟨_, rfl, d6⟩ := h4
 obtain ⟨b9, b6, rfl, g4, h5⟩ := Sl.shape d6
 unfold maxLen at h5
 have g4 : (gN (bD l n) k j).length ≤ b6 := g4
 have d6 : Prs _ (.slice b9 (gN (bD l n) k j).length b6) (gN (bD l n) k j) := d6
 refine aC ?_
 refine wn d9 ?_
 refine aE fun k6 e2 => ?_
 refine sk fun k7 e3 => ?_
 refine dx ?_
 refine dr bF (cG (b := false) rfl rfl (by decide)) ?_
 simp only [pq]
 refine wn e3 ?_
 refine aF ?_
 refine aH ?_
 refine e2 _ _ ?_
 refine aE fun k8 e4 => ?_
 refine sk fun k9 e5 => ?_
 refine aC ?_
 refine wn e5 ?_
 refine aM ?_
 refine bC (fun mm aa h6 => ∃ (i : Nat) (m : List Pr) (v : Value) (b1 : Fz) (b0 : Nat → Value), mm = t.writes.length - i ∧ b0 = eI aa ∧ aa = ⟨([(.slice a l.length c), (.agg #[(.int .i64 t.start), (.slice x0 t.reads.length y0), (.slice x1 t.writes.length y1)]), (.slice a2 n.length c2), (.slice a3 k.length c3), (.slice a4 j.length c4), undef, (pP n2 0), undef, undef, undef, (b0 10), (b0 11), (.int .i64 (oR l t)), v, (b0 14), undef, (b0 16), (b0 17), (.slice a l.length c), (.agg #[(.int .i64 t.start), (.slice x0 t.reads.length y0), (.slice x1 t.writes.length y1)]), (.int .i64 (oR l t)), (.int .i64 (oR l t)), bF, undef, (.tuple #[(.slice b9 (gN (bD l n) k j).length b6), (iI 0)]), (.slice a l.length c), (.slice a2 n.length c2), (.slice a3 k.length c3), (.slice a4 j.length c4), (.tuple #[(.slice b9 (gN (bD l n) k j).length b6), (iI 0)]), (.slice b9 (gN (bD l n) k j).length b6), (iI 0), (iI 0), bF, undef, (pP n2 2), (.slice x1 t.writes.length y1), (nI t.writes.length), (nI i)] ++ (usF b0 39 46 [undef])).toArray, []⟩ ∧ St w F h6 b1 [⟨n2, [(.int .i64 t.start), (.slice x0 t.reads.length y0), (.slice x1 t.writes.length y1)], 141⟩] [] ∧ Le g3 b1 ∧ (i ≤ t.writes.length) ∧ (Prs b1 v m) ∧ (TreeOk 60 m) ∧ (iJ n k j m (t.writes.drop i) = o)) _ ⟨0, (gN (bD l n) k j), (.slice b9 (gN (bD l n) k j).length b6), g3, _, rfl, rfl, rfl, h3, Le.refl _, (by omega), d6, ((nY hf n).range k j), hsc⟩ ?_
 rintro l0 l1 l2 ⟨i, m, v, b1, b0, rfl, -, hfr, b7, a0, hi, hvm, okm, hsm⟩ l3 a5
 simp only [uzF, Nat.reduceAdd] at hfr; subst hfr
 refine sk fun l4 c0 => ?_
 by_cases e6 : i < t.writes.length
 refine fJ ?_
 refine wn c0 ?_
 refine aE fun l5 e7 => ?_
 refine aL ?_
 refine aH ?_
 refine e7 _ _ ?_
 refine aE fun l6 a6 => ?_
 refine aM ?_
 refine aE fun l7 e8 => ?_
 obtain ⟨p, hp⟩ : ∃ p, t.writes[i]? = some p := ⟨t.writes[i], List.getElem?_eq_getElem e6⟩
 have hpo := ht.writes p (List.mem_of_getElem? hp)
 have hps := hpo.small
 obtain ⟨h7, h8, e9, h9, i0, c1, c5, c6, c7, i1, i2, i3, i4, g5, c8, g6⟩ := Wrs.get (h1.mono (a1.trans a0)) hp
 refine aB ?_
 refine dr (pP h7 (h8 + i * 4)) (bO (i := i) (sz := 4) Tryz.underlying40 (fH _) rfl e9 rfl (by omega) rfl) ?_
 refine dr _ (aD rfl (cT Tryz.underlying39 rfl (cD) (eR (St.fz b7 i1) (St.fz b7 i2) (St.fz b7 i3) (St.fz b7 i4)))) ?_
 simp only [pq]
 refine sA b7 (mF _) fun l8 l9 i5 => ?_
 refine sW 0 i5 (cD) fun m0 d7 => ?_
 refine wlK e8 ?_
 refine aE fun m1 f0 => ?_
 refine aE fun m2 a8 => ?_
 by_cases e1 : p.name = n
 refine aB ?_
 refine aC ?_
 refine aI (v := bT) d7 rfl (fn2 (jG _ _)) (gE (cQ _ _ _ _ p.name n (d7).sat g5 (hn.mono (a1.trans a0))) (beq_iff_eq.2 (e1))) (fun m3 g7 => ?_)
 refine aC ?_
 refine aI (v := (.int .i64 (eT p.key k))) g7 rfl (fn2 (vJ _ _)) (eV _ _ _ _ p.key k (g7).sat c8 (hk.mono (a1.trans a0))) (fun m4 c9 => ?_)
 simp only [pq]
 by_cases i6 : (eT p.key k) < (0 : Int)
 refine fJ ?_
 refine aC ?_
 refine wlK a8 ?_
 refine aL ?_
 refine dF ?_
 refine a6 _ _ ?_
 refine aB ?_
 refine cR (i + 1) ?_
 refine dx ?_
 refine aG ?_
 have c9 := St.drop c9 (.cons _ (List.Sublist.refl _))
 exact a5 _ _ _ (by omega) ⟨(i + 1), m, v, b1, _, rfl, rfl, rfl, c9, a0, (by omega), hvm, okm, (yQ hp (by unfold inR; rw [beq_iff_eq.2 e1, uK, uL]; first | rw [decide_eq_false (by omega)]; rfl | rw [decide_eq_true (by omega), decide_eq_false (by omega)]; rfl) hsm)⟩
 refine fC ?_
 refine aC ?_
 refine aI (v := (.int .i64 (eT p.key j))) c9 rfl (fn2 (vJ _ _)) (eV _ _ _ _ p.key j (c9).sat c8 (hj.mono (a1.trans a0))) (fun m5 a7 => ?_)
 simp only [pq]
 by_cases i7 : (0 : Int) < (eT p.key j)
 refine sZ ?_
 refine dp ?_
 refine wlK a8 ?_
 refine aL ?_
 refine dF ?_
 refine a6 _ _ ?_
 refine aB ?_
 refine cR (i + 1) ?_
 refine dx ?_
 simp only [pq]
 refine aG ?_
 have a7 := St.drop a7 (.cons _ (List.Sublist.refl _))
 exact a5 _ _ _ (by omega) ⟨(i + 1), m, v, b1, _, rfl, rfl, rfl, a7, a0, (by omega), hvm, okm, (yQ hp (by unfold inR; rw [beq_iff_eq.2 e1, uK, uL]; first | rw [decide_eq_false (by omega)]; rfl | rw [decide_eq_true (by omega), decide_eq_false (by omega)]; rfl) hsm)⟩
 refine mW ?_
 refine dp ?_
 refine wlK a8 ?_
 refine aF ?_
 refine aH ?_
 refine f0 _ _ ?_
 refine sk fun m6 f1 => ?_
 refine dy ?_
 simp only [pq]
 refine wn f1 ?_
 refine aE fun m7 b2 => ?_
 refine aE fun m8 b3 => ?_
 have hin : inR n k j p = true := by unfold inR; rw [beq_iff_eq.2 e1, uK, uL, decide_eq_true (by omega), decide_eq_true (by omega)]; rfl
 cases hg : p.gone with
 | true =>
  rw [hg] at a7
  refine aB ?_
  refine aC ?_
  refine wlK b3 ?_
  refine aL ?_
  refine aB ?_
  refine aC ?_
  refine aQ a7 rfl (fn2 (CS _ _)) (vM _ _ _ _ m p.key (a7).sat hvm c8 okm ⟨hpo.key1, hpo.key2⟩) ?_
  intro m9 n0 i8 f2 f3 i9
  obtain ⟨_, rfl, d8⟩ := i9
  obtain ⟨g8, f4, rfl, g9, j0⟩ := Sl.shape d8
  unfold maxLen at j0
  have g9 : (gM m p.key).length ≤ f4 := g9
  have d8 : Prs _ (.slice g8 (gM m p.key).length f4) (gM m p.key) := d8
  refine aC ?_
  refine wlK b2 ?_
  refine aE fun n1 f5 => ?_
  refine sk fun n3 f6 => ?_
  refine dx ?_
  refine dr bF (cG (b := false) rfl rfl (by decide)) ?_
  simp only [pq]
  refine wn f6 ?_
  refine aF ?_
  refine aH ?_
  refine f5 _ _ ?_
  refine aB ?_
  refine aC ?_
  refine wlK a6 ?_
  refine aB ?_
  refine cR (i + 1) ?_
  refine dx ?_
  simp only [pq]
  refine aG ?_
  have f2 := St.drop f2 (.cons _ (List.Sublist.refl _))
  exact a5 _ _ _ (by omega) ⟨(i + 1), (gM m p.key), (.slice g8 (gM m p.key).length f4), i8, _, rfl, rfl, rfl, f2, (a0.trans f3), (by omega), d8, okm.del, (YY hp hin hg hsm)⟩
 | false =>
  rw [hg] at a7
  by_cases hfit : 60 < (eQ m p.key p.value).length
  refine aB ?_
  refine aC ?_
  refine wlK b3 ?_
  refine aF ?_
  refine aB ?_
  refine aC ?_
  refine dr (.agg #[(.slice c1 p.key.length c5), (.slice c6 p.value.length c7)]) (aK (fV rfl rfl) (by kernel_rfl)) ?_
  simp only [pq]
  refine aQ a7 rfl (fn2 (tE _ _)) (rR _ _ _ _ m (p.key, p.value) (a7).sat hvm ⟨_, _, _, _, rfl, c8, g6⟩ okm hps.2.1 hps.2.2 (tF.2 ⟨hpo.key1, hpo.key2, hpo.value⟩) hfit) ?_
  intro n4 n5 n6 j1 j2 j3
  obtain ⟨_, rfl, j4⟩ := j3
  obtain ⟨n7, n8, rfl, n9, j5⟩ := Sl.shape j4
  unfold maxLen at j5
  refine aC ?_
  refine wlK b2 ?_
  refine aE fun o0 j6 => ?_
  refine sk fun o1 f7 => ?_
  refine dx ?_
  refine dr bT (cG (b := true) rfl rfl (by decide)) ?_
  simp only [pq]
  refine wn f7 ?_
  refine aL ?_
  refine sk fun o2 f8 => ?_
  refine aC ?_
  refine wn f8 ?_
  refine aN ?_
  try simp only [xt]
  refine bR (cC rfl (gD rfl) (gD rfl)) ?_
  rw [← VF hp hin hg hfit hsm]
  exact ⟨_, _, rfl, j1.gr, _, rfl, Sl.nil _ _ _⟩
  refine aB ?_
  refine aC ?_
  refine wlK b3 ?_
  refine aF ?_
  refine aB ?_
  refine aC ?_
  refine dr (.agg #[(.slice c1 p.key.length c5), (.slice c6 p.value.length c7)]) (aK (fV rfl rfl) (by kernel_rfl)) ?_
  simp only [pq]
  refine aQ a7 rfl (fn2 (tE _ _)) (tJ _ _ _ _ m (p.key, p.value) (a7).sat hvm ⟨_, _, _, _, rfl, c8, g6⟩ okm hps.2.1 hps.2.2 (tF.2 ⟨hpo.key1, hpo.key2, hpo.value⟩) hfit) ?_
  intro j7 o3 f9 g0 d0 g1
  obtain ⟨_, rfl, a9⟩ := g1
  obtain ⟨d1, b4, rfl, d2, g2⟩ := Sl.shape a9
  unfold maxLen at g2
  have d2 : (eQ m p.key p.value).length ≤ b4 := d2
  have a9 : Prs _ (.slice d1 (eQ m p.key p.value).length b4) (eQ m p.key p.value) := a9
  refine aC ?_
  refine wlK b2 ?_
  refine aE fun j8 d3 => ?_
  refine sk fun j9 d4 => ?_
  refine dx ?_
  refine dr bF (cG (b := false) rfl rfl (by decide)) ?_
  simp only [pq]
  refine wn d4 ?_
  refine aF ?_
  refine aH ?_
  refine d3 _ _ ?_
  refine aB ?_
  refine aC ?_
  refine wlK a6 ?_
  refine aB ?_
  refine cR (i + 1) ?_
  refine dx ?_
  simp only [pq]
  refine aG ?_
  have g0 := St.drop g0 (.cons _ (List.Sublist.refl _))
  exact a5 _ _ _ (by omega) ⟨(i + 1), (eQ m p.key p.value), (.slice d1 (eQ m p.key p.value).length b4), f9, _, rfl, rfl, rfl, g0, (a0.trans d0), (by omega), a9, (okm.put ⟨hpo.key1, hpo.key2, hpo.value⟩ (by omega)), (YZ hp hin hg hfit hsm)⟩
 refine aB ?_
 refine aC ?_
 refine aI (v := bF) d7 rfl (fn2 (jG _ _)) (gE (cQ _ _ _ _ p.name n (d7).sat g5 (hn.mono (a1.trans a0))) (beq_eq_false_iff_ne.2 (e1))) (fun k0 b5 => ?_)
 refine aC ?_
 refine wlK a8 ?_
 refine aL ?_
 refine dF ?_
 refine a6 _ _ ?_
 refine aB ?_
 refine cR (i + 1) ?_
 refine dx ?_
 refine aG ?_
 have b5 := St.drop b5 (.cons _ (List.Sublist.refl _))
 exact a5 _ _ _ (by omega) ⟨(i + 1), m, v, b1, _, rfl, rfl, rfl, b5, a0, (by omega), hvm, okm, (yQ hp (by unfold inR; rw [beq_eq_false_iff_ne.2 e1]; rfl) hsm)⟩
 refine fC ?_
 simp only [pq]
 refine wn c0 ?_
 refine aE fun k1 h2 => ?_
 refine aF ?_
 refine dF ?_
 refine e4 _ _ ?_
 refine sk fun k2 d5 => ?_
 refine aC ?_
 refine wn d5 ?_
 refine aN ?_
 try simp only [xt]
 refine bR (cC rfl (gD rfl) (gD rfl)) ?_
 rw [← show some m = o from by rw [List.drop_of_length_le (by omega)] at hsm; exact hsm]
 exact ⟨_, _, rfl, b7.gr, _, rfl, hvm⟩
theorem ZA {r : Wr} (h : WrOk r) : ∃ g, iM [] [r] = (0, g) := by
 rw [QM h]
 cases hw : eU [] r with
 | some g => exact ⟨g, rfl⟩
 | none =>
  have := (sS (m := 0) (ForestOk.nil 0) h (by omega) hw).1
  simp at this
theorem Sl.cap {α : Type} {k : Nat} {R : Fz → List Value → α → Prop} {F : Fz} {a : Option Addr} {n c c' : Nat} {l : List α} (h : Sl k R F (.slice a n c) l) (h1 : n ≤ c') (h2 : c' ≤ c) : Sl k R F (.slice a n c') l := by
 have hn := Sl.len h
 obtain ⟨xs, ⟨a', c0, e1, q1, q2, q3, q4⟩, hr, hk⟩ := h
 injection e1 with e1 e2 e3
 subst e1 e3
 exact ⟨xs, ⟨a, c', by rw [hn], by omega, by omega, fun h => by have := q3 h; omega, q4⟩, hr, hk⟩
theorem yR (F : Fz) (w : World) (v : Value) (m : Cm) (hs : Sat w F) (hv : CmV F v m) (hm : CmOk m) :
    Calls Tryz.prog 120 #[v] w (cS w (.int .i64 0)) := by
 obtain ⟨x1, y1, rfl, h1⟩ := hv
 obtain ⟨_, _, e1, q2, q3⟩ := Sl.shape h1
 injection e1 with _ _ e1
 subst e1
 unfold maxLen at q3
 have hmt := hm.turn
 have hms := hm.some
 have S := St.start hs
 go_enter Tryz.func120, Tryz.ntmps120
 refine sk fun K1 hK1 => ?_
 refine bA S (v := fun n => .pointer (aA n 0)) rfl (bZ (v := (.agg #[(nI m.turn), (.slice x1 m.writes.length y1)])) rfl) (fun n2 w3 S4 => ?_)
 refine dy ?_
 refine wn hK1 ?_
 refine aE fun K5 hK5 => ?_
 refine sk fun K6 hK6 => ?_
 refine aC ?_
 refine fC ?_
 refine aC ?_
 refine mW ?_
 refine dp ?_
 refine wn hK6 ?_
 refine aF ?_
 refine aH ?_
 refine hK5 _ _ ?_
 refine aE fun K7 hK7 => ?_
 refine sk fun K8 hK8 => ?_
 refine aC ?_
 refine fC ?_
 refine wn hK8 ?_
 refine aF ?_
 refine aH ?_
 refine hK7 _ _ ?_
 refine aE fun K9 hK9 => ?_
 refine sk fun f4 b2 => ?_
 refine aC ?_
 refine wn b2 ?_
 refine aM ?_
 refine bC (fun mm aa d4 => ∃ (k : Nat) (b0 : Fz) (b1 : Nat → Value), mm = m.writes.length - k ∧ b1 = eI aa ∧ aa = ⟨([(.agg #[(nI m.turn), (.slice x1 m.writes.length y1)]), (pP n2 0)] ++ (usF b1 2 5 ([(pP n2 0), (nI m.turn), bF, bF, (pP n2 0), (nI m.turn), bF, bF, (pP n2 1), (.slice x1 m.writes.length y1), (nI m.writes.length), bF, (pP n2 1), (.slice x1 m.writes.length y1), (nI m.writes.length), (nI k)] ++ (usF b1 23 16 [])))).toArray, []⟩ ∧ St w F d4 b0 [⟨n2, [(nI m.turn), (.slice x1 m.writes.length y1)], 168⟩] [] ∧ Le F b0 ∧ (k ≤ m.writes.length)) _ ⟨0, F, _, rfl, rfl, rfl, S4, Le.refl _, (by omega)⟩ ?_
 rintro f5 f6 f7 ⟨k, b0, b1, rfl, -, hfr, a7, a8, hk⟩ f8 b3
 simp only [uzF, Nat.reduceAdd] at hfr; subst hfr
 refine sk fun f9 a9 => ?_
 by_cases b4 : k < m.writes.length
 refine fJ ?_
 refine wn a9 ?_
 refine aE fun g0 b5 => ?_
 refine aL ?_
 refine aH ?_
 refine b5 _ _ ?_
 refine aE fun g1 b6 => ?_
 refine aM ?_
 refine aE fun g2 b7 => ?_
 obtain ⟨p, hp⟩ : ∃ p, m.writes[k]? = some p := ⟨m.writes[k], List.getElem?_eq_getElem b4⟩
 have hpo := hm.ok p (List.mem_of_getElem? hp)
 obtain ⟨gx, hae⟩ := ZA hpo
 obtain ⟨d5, d6, b9, a1, a2, a3, a4, a5, a6, d7, d8, d9, e0, e2, e3, e4⟩ := Wrs.get (h1.mono a8) hp
 refine aB ?_
 refine dx ?_
 refine dr (pP d5 (d6 + k * 4)) (bO (i := k) (sz := 4) Tryz.underlying40 (fH _) rfl b9 rfl (by omega) rfl) ?_
 refine dr _ (aD rfl (cT Tryz.underlying39 rfl (cD) (eR (St.fz a7 d7) (St.fz a7 d8) (St.fz a7 d9) (St.fz a7 e0)))) ?_
 simp only [pq]
 refine sA a7 (mF _) fun g3 g4 e5 => ?_
 refine dy ?_
 refine sW 0 e5 (cD) fun g5 c9 => ?_
 simp only [pq]
 refine wlK b7 ?_
 refine aE fun g6 c0 => ?_
 refine sk fun g7 c1 => ?_
 refine dx ?_
 refine fY ?_
 refine wn c1 ?_
 refine aF ?_
 refine aH ?_
 refine c0 _ _ ?_
 refine sk fun g8 c2 => ?_
 refine dR c9 0 Tryz.underlying39 (cD) ?_
 simp only [pq]
 refine bA c9 (v := fun n => .slice (aA n 0) 1 1) rfl (bY (ps := #[(0, (.agg #[(.slice a1 p.name.length a2), (.slice a3 p.key.length a4), (.bool p.gone), (.slice a5 p.value.length a6)]))]) (cells := #[(.slice a1 p.name.length a2), (.slice a3 p.key.length a4), (.bool p.gone), (.slice a5 p.value.length a6)]) (E := 39) (cJ rfl) (fun w => by kernel_rfl)) (fun d0 e6 e7 => ?_)
 simp only [pq]
 obtain ⟨d1, a0, c3⟩ := St.freezeBlk e7 (i := 0) rfl
 have e8 : Wrs _ (.slice (some ⟨d0, 0, none⟩) 1 1) [p] := gW (R := WrC) (l := [p]) (el := [[(.slice a1 p.name.length a2), (.slice a3 p.key.length a4), (.bool p.gone), (.slice a5 p.value.length a6)]]) c3 rfl ⟨⟨_, _, _, _, rfl, (e2.mono a0), (e3.mono a0), rfl, (e4.mono a0)⟩, trivial⟩ (by simp) (by unfold maxLen; simp)
 generalize addF b0 e6 d0 = g9 at *
 refine aQ d1 rfl (fn2 (CR _ _)) (xD (d1).sat (Sl.nil _ _ _) e8 (ForestOk.nil 60) (by simpa using hpo) hae) ?_
 intro h0 h2 e9 c4 c5 f0
 obtain ⟨_, rfl, c6⟩ := f0
 obtain ⟨f1, d2, rfl, d3, f2⟩ := Sl.shape c6
 unfold maxLen at f2
 have d3 : gx.length ≤ d2 := d3
 have c6 : Tns _ (.slice f1 gx.length d2) gx := c6
 refine aC ?_
 refine wn c2 ?_
 refine sk fun h3 c7 => ?_
 refine dx ?_
 refine dr bF (cG (b := false) rfl rfl (by decide)) ?_
 simp only [pq]
 refine wn c7 ?_
 refine aF ?_
 refine aH ?_
 refine b6 _ _ ?_
 refine aB ?_
 refine cR (k + 1) ?_
 refine dx ?_
 refine aG ?_
 have c4 := St.drop c4 (.cons _ (List.Sublist.refl _))
 exact b3 _ _ _ (by omega) ⟨(k + 1), e9, _, rfl, rfl, rfl, c4, ((a8.trans a0).trans c5), (by omega)⟩
 refine fC ?_
 simp only [pq]
 refine wn a9 ?_
 refine aE fun h4 f3 => ?_
 refine aF ?_
 refine dF ?_
 refine hK9 _ _ ?_
 refine sk fun h5 c8 => ?_
 refine dy ?_
 refine wn c8 ?_
 refine aN ?_
 try simp only [xt]
 refine bR (bJ rfl (gD rfl)) ?_
 exact ⟨rfl, a7.gr.below⟩
theorem vO {w0 w : World} {F0 F : Fz} {L0 : List Blk} {M0 : List RowP} {v u : Value} {l p : By}
    (S : St w0 F0 w F L0 (cE 1 ByC ByC.mono 5 w0.heap.size v l :: M0)) (hu : Bs F u p) (hl : l.length ≤ 100000) (hp : p.length ≤ 1000) :
    Calls Tryz.prog 147 #[v, u] w fun e w' => ∃ v', e = .returned v' ∧ St w0 F0 w' F L0 (cE 1 ByC ByC.mono 5 w0.heap.size v' (l ++ dI p) :: M0) := by
 obtain ⟨a, c, rfl, hc1, hc2⟩ := (S.own (i := 0) rfl).shape
 obtain ⟨x, y, rfl, _⟩ := hu.shape
 unfold maxLen at hc2
 obtain ⟨i5, hi5, hz5, hs5, hb5⟩ := info_parts sJ
 go_enter Tryz.func147, Tryz.ntmps147
 refine sk fun K1 hK1 => ?_
 refine dy ?_
 refine wn hK1 ?_
 refine sk fun K2 hK2 => ?_
 refine aC ?_
 refine dr (bv (b8 p.length)) (bB (v := (nI p.length)) rfl (iT p.length _)) ?_
 refine bA S (v := fun n => .slice (aA n 0) 1 1) rfl (bY (ps := #[(0, (bv (b8 p.length)))]) (cells := #[(bv (b8 p.length))]) (E := 5) (cJ rfl) (fun w => by kernel_rfl)) (fun n3 w4 S5 => ?_)
 refine fB (i := 0) (r := 0) (p := (b8 p.length)) (cs := [(bv (b8 p.length))]) S5 rfl i5 (.int .u8 0) 1 Tryz.underlying25 hi5 hz5 hs5 hb5 rfl (by decide) rfl rfl rfl rfl rfl (rS (b8 p.length)) (rfl) (Nat.le_refl _) S5.gr.below.size (by unfold maxLen; omega) (by omega) ?_
 intro v6 w7 S8 hn9
 simp only [pq]
 have S8 := St.drop S8 (.cons _ (List.Sublist.refl _))
 refine dx ?_
 refine eK (r := 0) (u := (.slice x p.length y)) S8 rfl i5 (.int .u8 0) 1 Tryz.underlying25 hi5 hz5 hs5 hb5 rfl (by decide) rfl rfl rfl (Sl.toW (Bs.sl hu) (S8).sat) ByC.one (Nat.le_refl _) S8.gr.below.size (by unfold maxLen; simp only [List.length_append, List.length_cons, List.length_nil]; omega) (by simp only [List.length_append, List.length_cons, List.length_nil]; omega) ?_
 intro a1 a2 a0 a3
 simp only [pq]
 have a0 : St w0 F0 a2 F (L0) (cE 1 ByC ByC.mono 5 w0.heap.size a1 ((l ++ [(b8 p.length)]) ++ p) :: M0) := a0
 refine dy ?_
 refine wn hK2 ?_
 refine aN ?_
 try simp only [xt]
 refine bR (bJ rfl (gD rfl)) ?_
 ·have he : (l ++ [b8 p.length]) ++ p = l ++ dI p := by unfold dI; simp
  rw [he] at a0
  exact ⟨_, rfl, a0⟩
def iE (t n : Nat) : By := [b8 (t / 65536), b8 (t / 256), b8 t, b8 n]
theorem QV (t : Nat) (ws : List Wr) : eO t ws = iE t ws.length ++ ws.flatMap kN := rfl
theorem mM (p : By) : (dI p).length = 1 + p.length := by simp [dI]; omega
theorem TL {ws : List Wr} (h : ∀ w ∈ ws, WrOk w) : (ws.flatMap kN).length ≤ 59 * ws.length := by
 induction ws with
 | nil => simp
 | cons w ws ih =>
  have hw := h w (by simp)
  have h1 := hw.name.2; have h2 := hw.key2; have h3 := hw.value
  have := UR hw.gone
  have := ih (fun x hx => h x (by simp [hx]))
  rw [List.flatMap_cons, List.length_append, List.length_cons]
  omega
theorem ZB {H : By} {ws : List Wr} {k : Nat} {p : Wr} (hp : ws[k]? = some p) (hg : p.gone = true) : (((H ++ (ws.take k).flatMap kN) ++ dI p.name) ++ dI p.key) ++ [(255 : UInt8)] = H ++ (ws.take (k + 1)).flatMap kN := by
 rw [fI hp, List.flatMap_append]
 simp [kN, hg]
theorem Eh {H : By} {ws : List Wr} {k : Nat} {p : Wr} (hp : ws[k]? = some p) (hg : p.gone = false) : (((H ++ (ws.take k).flatMap kN) ++ dI p.name) ++ dI p.key) ++ dI p.value = H ++ (ws.take (k + 1)).flatMap kN := by
 rw [fI hp, List.flatMap_append]
 simp [kN, hg]
def Ja (b : By) (e : Int) (F : Fz) (u : Value) : Prop := ∃ x, u = .tuple #[x, .int .i64 e] ∧ Bs F x b
theorem NU (F : Fz) (w : World) (v : Value) (m : Cm) (hs : Sat w F) (hv : CmV F v m) (hm : CmOk m) :
    Calls Tryz.prog 134 #[v] w (dB w F (Ja (eO m.turn m.writes) 0)) := by
 obtain ⟨x1, y1, rfl, h1⟩ := hv
 obtain ⟨_, _, e1, q2, q3⟩ := Sl.shape h1
 injection e1 with _ _ e1
 subst e1
 unfold maxLen at q3
 have hms := hm.some
 obtain ⟨i5, hi5, hz5, hs5, hb5⟩ := info_parts sJ
 have S := St.start hs
 go_enter Tryz.func134, Tryz.ntmps134
 refine sk fun K1 hK1 => ?_
 refine bA S (v := fun n => .pointer (aA n 0)) rfl (bZ (v := (.agg #[(nI m.turn), (.slice x1 m.writes.length y1)])) rfl) (fun n2 w3 S4 => ?_)
 iterate 2 refine dy ?_
 refine wn hK1 ?_
 refine aE fun K5 hK5 => ?_
 refine sk fun K6 hK6 => ?_
 refine dR S4 0 Tryz.underlying168 (oH) ?_
 simp only [pq]
 refine aI (v := (iI 0)) S4 rfl (fn1 (Do _ _)) (yR _ _ _ m (S4).sat ⟨_, _, rfl, h1⟩ hm) (fun w7 S8 => ?_)
 refine dy ?_
 refine wn hK6 ?_
 refine sk fun K9 hK9 => ?_
 refine dx ?_
 refine dr bF (cG (b := false) rfl rfl (by decide)) ?_
 simp only [pq]
 refine wn hK9 ?_
 refine aF ?_
 refine aH ?_
 refine hK5 _ _ ?_
 refine sk fun g8 b4 => ?_
 refine aC ?_
 refine dr (nI (m.turn / 65536)) (AV (m := m.turn) (n := 16) rfl rfl (by decide)) ?_
 simp only [pq]
 refine dr (bv (b8 (m.turn / 65536))) (bB (v := (nI (m.turn / 65536))) rfl (iT (m.turn / 65536) _)) ?_
 refine aC ?_
 refine dr (nI (m.turn / 256)) (AV (m := m.turn) (n := 8) rfl rfl (by decide)) ?_
 refine dr (bv (b8 (m.turn / 256))) (bB (v := (nI (m.turn / 256))) rfl (iT (m.turn / 256) _)) ?_
 refine aC ?_
 refine dr (bv (b8 m.turn)) (bB (v := (nI m.turn)) rfl (iT m.turn _)) ?_
 refine aC ?_
 refine dr (bv (b8 m.writes.length)) (bB (v := (nI m.writes.length)) rfl (iT m.writes.length _)) ?_
 simp only [pq]
 refine bA S8 (v := fun n => .slice (aA n 0) 4 4) rfl (bY (ps := #[(0, (bv (b8 (m.turn / 65536)))), (1, (bv (b8 (m.turn / 256)))), (2, (bv (b8 m.turn))), (3, (bv (b8 m.writes.length)))]) (cells := #[(bv (b8 (m.turn / 65536))), (bv (b8 (m.turn / 256))), (bv (b8 m.turn)), (bv (b8 m.writes.length))]) (E := 5) (oD rfl rfl rfl rfl) (fun w => by kernel_rfl)) (fun b5 e3 d7 => ?_)
 refine dy ?_
 refine wn b4 ?_
 refine aE fun g9 b6 => ?_
 refine sk fun h0 b7 => ?_
 refine aC ?_
 refine wn b7 ?_
 refine aM ?_
 have e4 : St w F e3 F [⟨n2, [(nI m.turn), (.slice x1 m.writes.length y1)], 168⟩] [cE 1 ByC ByC.mono 5 w.heap.size (.slice (aA b5 0) 4 4) (iE m.turn m.writes.length)] := St.blkRow (k := 1) (l := (iE m.turn m.writes.length)) (el := [[(bv (b8 (m.turn / 65536)))], [(bv (b8 (m.turn / 256)))], [(bv (b8 m.turn))], [(bv (b8 m.writes.length))]]) (hR := ByC.mono) d7 rfl ⟨rfl, rfl, rfl, rfl, trivial⟩ (by simp) rfl (by simp [iE]) (by unfold maxLen; decide) (d7.blk _ (List.mem_cons_self ..)).2.2
 refine bC (fun mm aa e5 => ∃ (k : Nat) (v : Value) (b2 : Fz) (b3 : Nat → Value), mm = m.writes.length - k ∧ b3 = eI aa ∧ aa = ⟨([(.agg #[(nI m.turn), (.slice x1 m.writes.length y1)]), (pP n2 0), Zn, (iI 0), (iI 0), v, undef, (b3 7), (.agg #[(nI m.turn), (.slice x1 m.writes.length y1)]), (iI 0), (iI 0), bF, undef, (pP n2 0), (nI m.turn), (nI (m.turn / 65536)), (bv (b8 (m.turn / 65536))), (pP n2 0), (nI m.turn), (nI (m.turn / 256)), (bv (b8 (m.turn / 256))), (pP n2 0), (nI m.turn), (bv (b8 m.turn)), (pP n2 1), (.slice x1 m.writes.length y1), (nI m.writes.length), (bv (b8 m.writes.length)), (.slice (aA b5 0) 4 4), (pP n2 1), (.slice x1 m.writes.length y1), (nI m.writes.length), (nI k)] ++ (usF b3 33 20 [undef])).toArray, []⟩ ∧ St w F e5 b2 [⟨n2, [(nI m.turn), (.slice x1 m.writes.length y1)], 168⟩] [cE 1 ByC ByC.mono 5 w.heap.size v ((iE m.turn m.writes.length) ++ (m.writes.take k).flatMap kN)] ∧ Le F b2 ∧ (k ≤ m.writes.length)) _ ⟨0, (.slice (aA b5 0) 4 4), F, _, rfl, rfl, rfl, e4, Le.refl _, (by omega)⟩ ?_
 rintro h2 h3 h4 ⟨k, v, b2, b3, rfl, -, hfr, a2, a3, hk⟩ h5 a9
 simp only [uzF, Nat.reduceAdd] at hfr; subst hfr
 refine sk fun h6 b0 => ?_
 by_cases b9 : k < m.writes.length
 ·refine fJ ?_
  refine wn b0 ?_
  refine aE fun h7 c0 => ?_
  refine aL ?_
  refine aH ?_
  refine c0 _ _ ?_
  refine aE fun h8 b1 => ?_
  refine aM ?_
  refine aE fun h9 c1 => ?_
  obtain ⟨p, hp⟩ : ∃ p, m.writes[k]? = some p := ⟨m.writes[k], List.getElem?_eq_getElem b9⟩
  have hpo := hm.ok p (List.mem_of_getElem? hp)
  have hp1 := hpo.name.2
  have hp2 := hpo.key2
  have hp3 := hpo.value
  have hfl := TL (ws := m.writes.take k) (fun x hx => hm.ok x (List.mem_of_mem_take hx))
  rw [List.length_take] at hfl
  obtain ⟨e6, e7, c2, c3, c4, c5, c6, c7, c8, e8, e9, f0, f1, f2, f3, f4⟩ := Wrs.get (h1.mono a3) hp
  refine aB ?_
  refine dr (pP e6 (e7 + k * 4)) (bO (i := k) (sz := 4) Tryz.underlying40 (fH _) rfl c2 rfl (by omega) rfl) ?_
  refine dr _ (aD rfl (cT Tryz.underlying39 rfl (cD) (eR (St.fz a2 e8) (St.fz a2 e9) (St.fz a2 f0) (St.fz a2 f1)))) ?_
  simp only [pq]
  refine sA a2 (mF _) fun f5 i0 f6 => ?_
  refine sW 0 f6 (cD) fun f7 f8 => ?_
  refine wlK c1 ?_
  refine aE fun i1 c9 => ?_
  obtain ⟨f9, a0, a1⟩ := St.freezeBlk f8 (i := 0) rfl
  generalize addF b2 f7 f5 = d0 at *
  refine jT f9 (by kernel_rfl) (fun i2 a6 => ?_)
  refine gQ 0 rfl a6.sat ?_
  simp only [pq]
  refine dH 1 rfl _ a6.sat (fun _ _ => ef (JA _ _)) ?_
  simp only [pq]
  refine dH 2 rfl _ a6.sat (fun _ d1 => aD rfl (aT (bH _) (St.fz (St.start d1) (a1 0 _ rfl)))) ?_
  simp only [pq]
  refine dH 4 rfl _ a6.sat (fun _ _ => ef (JB _ _)) ?_
  simp only [pq]
  refine dH 5 rfl _ a6.sat (fun _ d2 => aD rfl (aT (bH _) (St.fz (St.start d2) (a1 1 _ rfl)))) ?_
  simp only [pq]
  refine dV 3 (by kernel_rfl) rfl ?_
  refine wM (L := [⟨n2, [(nI m.turn), (.slice x1 m.writes.length y1)], 168⟩]) (M := fun v_ => [cE 1 ByC ByC.mono 5 w.heap.size v_ (((iE m.turn m.writes.length) ++ (m.writes.take k).flatMap kN) ++ dI p.name)]) rfl (cK (vs := #[v, (.slice c3 p.name.length c4)]) (gP rfl rfl) rfl (JP _ _)) (vO a6 (f2.mono a0) (by simp only [List.length_append, mM, iE, List.length_cons, List.length_nil]; omega) (by omega)) ?_
  intro g0 i3 d8
  refine aG (cU d8.sat ?_)
  refine dV 6 (by kernel_rfl) rfl ?_
  refine wM (L := [⟨n2, [(nI m.turn), (.slice x1 m.writes.length y1)], 168⟩]) (M := fun v_ => [cE 1 ByC ByC.mono 5 w.heap.size v_ ((((iE m.turn m.writes.length) ++ (m.writes.take k).flatMap kN) ++ dI p.name) ++ dI p.key)]) rfl (cK (vs := #[g0, (.slice c5 p.key.length c6)]) (gP rfl rfl) rfl (JP _ _)) (vO d8 (f3.mono a0) (by simp only [List.length_append, mM, iE, List.length_cons, List.length_nil]; omega) (by omega)) ?_
  intro g1 i4 a7
  simp only [pq]
  refine aG (cU a7.sat ?_)
  refine kC 7 rfl a7.sat ?_
  simp only [pq]
  refine jV (by kernel_rfl) ?_
  refine c9 _ _ ?_
  refine aE fun i6 d3 => ?_
  refine sk fun i7 d4 => ?_
  refine df (AO _ _) ?_
  refine dr _ (aD rfl (aT (iA _) (St.fz a7 (a1 2 _ rfl)))) ?_
  refine wn d4 ?_
  refine wp_cond_split rfl (fun a4 => ?_) (fun a4 => ?_)
  ·refine sk fun i8 d5 => ?_
   refine dx ?_
   simp only [pq]
   refine bA a7 (v := fun n => .slice (aA n 0) 1 1) rfl (bY (ps := #[(0, (.int .u8 255))]) (cells := #[(.int .u8 255)]) (E := 5) (cJ rfl) (fun w => by kernel_rfl)) (fun i9 j0 d9 => ?_)
   refine fB (i := 0) (r := 0) (p := (255 : UInt8)) (cs := [(.int .u8 255)]) d9 rfl i5 (.int .u8 0) 1 Tryz.underlying25 hi5 hz5 hs5 hb5 rfl (by decide) rfl rfl rfl rfl rfl (rS 255) (rfl) (Nat.le_refl _) d9.gr.below.size (by unfold maxLen; simp only [List.length_append, mM, iE, List.length_cons, List.length_nil]; omega) (by simp only [List.length_append, mM, iE, List.length_cons, List.length_nil]; omega) ?_
   intro e0 g2 a8 g3
   simp only [pq]
   have a8 := St.drop a8 (.cons _ (List.Sublist.refl _))
   have a8 : St w F g2 d0 [⟨n2, [(nI m.turn), (.slice x1 m.writes.length y1)], 168⟩] [cE 1 ByC ByC.mono 5 w.heap.size e0 (((((iE m.turn m.writes.length) ++ (m.writes.take k).flatMap kN) ++ dI p.name) ++ dI p.key) ++ [(255 : UInt8)])] := a8
   refine dy ?_
   refine wn d5 ?_
   refine dF ?_
   refine b1 _ _ ?_
   refine aB ?_
   refine cR (k + 1) ?_
   refine dx ?_
   simp only [pq]
   refine aG ?_
   rw [ZB hp (by simpa using a4)] at a8
   exact a9 _ _ _ (by omega) ⟨(k + 1), e0, d0, _, rfl, rfl, rfl, a8, (a3.trans a0), (by omega)⟩
  ·refine aH ?_
   refine d3 _ _ ?_
   refine aB ?_
   refine aC ?_
   refine dr _ (aD rfl (aT (bH _) (St.fz a7 (a1 3 _ rfl)))) ?_
   simp only [pq]
   refine wM (L := [⟨n2, [(nI m.turn), (.slice x1 m.writes.length y1)], 168⟩]) (M := fun v_ => [cE 1 ByC ByC.mono 5 w.heap.size v_ (((((iE m.turn m.writes.length) ++ (m.writes.take k).flatMap kN) ++ dI p.name) ++ dI p.key) ++ dI p.value)]) rfl (cK (vs := #[g1, (.slice c7 p.value.length c8)]) (gP rfl rfl) rfl (JP _ _)) (vO a7 (f4.mono a0) (by simp only [List.length_append, mM, iE, List.length_cons, List.length_nil]; omega) (by omega)) ?_
   intro g4 j1 e2
   refine dy ?_
   refine wlK b1 ?_
   refine aB ?_
   refine cR (k + 1) ?_
   refine dx ?_
   simp only [pq]
   refine aG ?_
   rw [Eh hp (by simpa using a4)] at e2
   exact a9 _ _ _ (by omega) ⟨(k + 1), g4, d0, _, rfl, rfl, rfl, e2, (a3.trans a0), (by omega)⟩
 ·refine fC ?_
  refine wn b0 ?_
  refine aE fun j2 g5 => ?_
  refine aF ?_
  refine dF ?_
  refine b6 _ _ ?_
  refine sk fun j3 d6 => ?_
  refine aC ?_
  refine wn d6 ?_
  refine aN ?_
  try simp only [xt]
  refine bR (cC rfl (gD rfl) (gD rfl)) ?_
  ·have hend : m.writes.take k = m.writes := List.take_of_length_le (by omega)
   rw [hend] at a2
   obtain ⟨j4, g6, g7, a5⟩ := St.freeze a2 (i := 0) rfl (Nat.le_refl _)
   have a5 : Bys _ v ((iE m.turn m.writes.length) ++ m.writes.flatMap kN) := a5
   exact ⟨_, _, rfl, g6.gr, _, rfl, eW a5⟩
theorem Bs.cut {F : Fz} {a : Option Addr} {m c n : Nat} {l : By} (h : Bs F (.slice a m c) l) (hn : n ≤ m) : Bs F (.slice a n n) (l.take n) := by
 have hm := h.len
 obtain ⟨a', c0, e, q1, _⟩ := h.shape
 injection e with _ _ e
 have := eW (Sl.cap (c' := n) (Sl.takeN (m := n) h.sl hn) (Nat.le_refl _) (by omega))
 exact this
theorem Bs.rest {F : Fz} {a : Option Addr} {m c n : Nat} {l : By} (h : Bs F (.slice a m c) l) (hn : n ≤ m) : Bs F (.slice (if c = n then a else a.map (·.add (n * 1))) (m - n) (c - n)) (l.drop n) := eW (Sl.dropAny (by decide) h.sl hn)
def TM (l : List Wr) : Nat → Nat → Int
  | 0, _ => 0
  | n + 1, k => match l[k]? with
    | none => 0
    | some r => if k = 10 then 1 else if wrE r ≠ 0 then wrE r else TM l n (k + 1)
theorem NV {l : List Wr} : ∀ n k, n + k = l.length → (TM l n k = 0 ↔ ∀ (i : Nat) r, k ≤ i → l[i]? = some r → i ≠ 10 ∧ wrE r = 0)
  | 0, k, h => ⟨fun _ i r hi hr => by have := (List.getElem?_eq_some_iff.1 hr).1; omega, fun _ => rfl⟩
  | n + 1, k, h => by
    have hk : k < l.length := by omega
    obtain ⟨x, hp⟩ : ∃ x, l[k]? = some x := ⟨_, List.getElem?_eq_getElem hk⟩
    simp only [TM, hp]
    by_cases h1 : k = 10
    · rw [if_pos h1]
      exact ⟨fun h => by omega, fun h => absurd h1 (h k _ (Nat.le_refl _) hp).1⟩
    · rw [if_neg h1]
      by_cases h2 : wrE x = 0
      · rw [if_neg (by simpa using h2), NV n (k + 1) (by omega)]
        refine ⟨fun h i r hi hr => ?_, fun h i r hi hr => h i r (by omega) hr⟩
        rcases Nat.lt_or_eq_of_le hi with hi | rfl
        · exact h i r hi hr
        · rw [hp] at hr; cases hr; exact ⟨h1, h2⟩
      · rw [if_pos h2]
        exact ⟨fun h => absurd h h2, fun h => absurd (h k _ (Nat.le_refl _) hp).2 h2⟩
def ZC (m : Cm) : Int := if m.turn < 1 ∨ 1048576 < m.turn then 2 else if m.writes.length < 1 then 1 else TM m.writes m.writes.length 0
theorem ZD {m : Cm} : ZC m = 0 ↔ CmOk m := by
 unfold ZC
 by_cases h1 : m.turn < 1 ∨ 1048576 < m.turn
 rw [if_pos h1]; exact ⟨fun h => by omega, fun h => by have := h.turn; omega⟩
 rw [if_neg h1]
 by_cases h2 : m.writes.length < 1
 rw [if_pos h2]; exact ⟨fun h => by omega, fun h => by have := h.some; omega⟩
 rw [if_neg h2, NV _ _ (by omega)]
 constructor
 intro h
 refine ⟨by omega, ⟨by omega, ?_⟩, fun w hw => ?_⟩
 rcases Nat.lt_or_ge 10 m.writes.length with h3 | h3
 exact absurd rfl (h 10 _ (Nat.zero_le _) (List.getElem?_eq_getElem h3)).1
 exact h3
 obtain ⟨i, hi, rfl⟩ := List.mem_iff_getElem.1 hw
 exact pT.1 (h i _ (Nat.zero_le _) (List.getElem?_eq_getElem hi)).2
 intro h i r _ hr
 have hi := (List.getElem?_eq_some_iff.1 hr).1
 have := h.some.2
 exact ⟨by omega, pT.2 (h.ok r (List.mem_of_getElem? hr))⟩
def ZE (b : By) : Int := if (cmR ⟨b, false⟩).2.short = true then 14 else if 0 < (cmR ⟨b, false⟩).2.rest.length then 4 else ZC ⟨(cmR ⟨b, false⟩).1.1, (cmR ⟨b, false⟩).1.2⟩
def Ei (b : By) : Cm := if ZE b = 0 then ⟨(cmR ⟨b, false⟩).1.1, (cmR ⟨b, false⟩).1.2⟩ else ⟨0, []⟩
theorem HS {m : Cm} (hm : CmOk m) : (eO m.turn m.writes).length ≤ 594 ∧ 4 ≤ (eO m.turn m.writes).length := by
 have := TL hm.ok
 have := hm.some.2
 rw [QV, List.length_append, show (iE m.turn m.writes.length).length = 4 from rfl]
 omega
theorem ZF {m : Cm} (hm : CmOk m) : ZE (eO m.turn m.writes) = 0 ∧ Ei (eO m.turn m.writes) = m := by
 have ht := hm.turn
 have hs := hm.some
 have h := Cf m.turn m.writes [] hm.ok (by omega) (by omega)
 rw [List.append_nil] at h
 have he : ZE (eO m.turn m.writes) = 0 := by
  unfold ZE
  rw [h, if_neg (by simp), if_neg (by simp)]
  exact ZD.2 hm
 exact ⟨he, by unfold Ei; rw [if_pos he, h]⟩
open Go.ChangeShapes Go.WideShapes Go.ChangeAt Go.RowKit Go.Deep
theorem zQ {P : Program} {W : World} : ∀ {l : List (String × DataW Unit)} {ps : List MemPlace}, DataW.LaidVars P W l ps → ∀ (i : Nat) (n : String) (d : DataW Unit), l[i]? = some (n, d) →
    ∃ g t cs fuel p, P.globalNamed n = some g ∧ (P.globals[g]?).map (·.type) = some t ∧ W.var? P n = some cs ∧ DataW.trod (fun _ => ()) P W 0 (fun _ => true) false fuel t cs.toList = some (d, p)
  | [], _, _, i, n, d, hi => by simp at hi
  | (n', d') :: r, ps, h, i, n, d, hi => by
    obtain ⟨g, t, cs, fuel, p, q, h1, h2, h3, h4, h5, h6⟩ := h
    cases i with
    | zero =>
      simp only [List.getElem?_cons_zero, Option.some.injEq, Prod.mk.injEq] at hi
      obtain ⟨rfl, rfl⟩ := hi
      exact ⟨g, t, cs, fuel, p, h1, h2, h3, h4⟩
    | succ i => exact zQ h5 i n d (by simpa using hi)
theorem xH {P : Program} {W : World} {l : List (String × DataW Unit)} (h : laidMet P l W) (i : Nat) (name : String) (k : IntKind) (zs : List Int) {g : Nat} {t e : TypeId} {n : Nat}
    (hi : l[i]? = some (name, Lib.tabData k zs))
    (hg : P.globalNamed name = some g) (hty : (P.globals[g]?).map (·.type) = some t) (ht : P.underlying t = some (.array n e)) (he : P.underlying e = some (.int k)) (hce : P.cellsOf e = 1) (hct : P.cellsOf t = n) : Lib.TabIs P W name k zs := by
 obtain ⟨ps, hv, _, _⟩ := h
 obtain ⟨g', t', cs, fuel, p, hg', ht', hvar, hd⟩ := zQ hv i name _ hi
 obtain rfl := Option.some.inj (hg.symm.trans hg')
 obtain rfl := Option.some.inj (hty.symm.trans ht')
 unfold Lib.TabIs
 rw [hvar, ← Lib.cells_of_tab ht he hce hct hd]
theorem Hj {α : Type} {cs : Array α} (h : cs.size = 5) : ∃ c0 c1 c2 c3 c4, cs = #[c0, c1, c2, c3, c4] := by
 obtain ⟨l⟩ := cs
 match l, h with
 | [c0, c1, c2, c3, c4], _ => exact ⟨c0, c1, c2, c3, c4, rfl⟩
theorem VG {H : Type} {enc : TypeId × Value → H} {P : Program} {w : World} {base : Nat} {spare : Nat → Bool} {held : Bool} {r : Reach} {b0 : Nat} {t : TypeId} {f0 f1 f2 f3 f4 : Field} {v : Value} {d : DataW H} {p : List MemPlace}
    (hs : P.underlying t = some (.struct #[f0, f1, f2, f3, f4])) (hone : oneCellFields P #[f0, f1, f2, f3, f4] = true) (hC : P.cellsOf t = 5)
    (hv : Value.okWide P w r b0 t v) (h : DataW.Trod enc P w base spare held t v d p) :
    ∃ (v0 v1 v2 v3 v4 : Value) (y0 y1 y2 y3 y4 : DataW H × List MemPlace) (n : Nat), v = .agg #[v0, v1, v2, v3, v4] ∧
      DataW.trod enc P w base spare held n f0.type [v0] = some y0 ∧ DataW.trod enc P w base spare held n f1.type [v1] = some y1 ∧ DataW.trod enc P w base spare held n f2.type [v2] = some y2 ∧
      DataW.trod enc P w base spare held n f3.type [v3] = some y3 ∧ DataW.trod enc P w base spare held n f4.type [v4] = some y4 := by
 obtain ⟨cs, rfl, hsz⟩ := okWide_struct hs hv
 obtain ⟨c0, c1, c2, c3, c4, rfl⟩ := Hj (hsz.trans hC)
 obtain ⟨fuel, hf⟩ := h
 obtain ⟨xs, n, _, _, _, hlen, hi⟩ := DataW.trod_struct hs hf
 have H1 : ∀ (i : Nat) f, #[f0, f1, f2, f3, f4][i]? = some f → f.offset = i ∧ P.cellsOf f.type = 1 := fun i f hf => by
  obtain ⟨o, k⟩ := hone_of hone i f hf
  exact ⟨o, k⟩
 match xs, hlen with
 | [y0, y1, y2, y3, y4], _ =>
  refine ⟨c0, c1, c2, c3, c4, y0, y1, y2, y3, y4, n, rfl, ?_, ?_, ?_, ?_, ?_⟩
  have := hi 0 f0 rfl; rw [(H1 0 f0 rfl).1, (H1 0 f0 rfl).2] at this; simpa [Value.cells] using this
  have := hi 1 f1 rfl; rw [(H1 1 f1 rfl).1, (H1 1 f1 rfl).2] at this; simpa [Value.cells] using this
  have := hi 2 f2 rfl; rw [(H1 2 f2 rfl).1, (H1 2 f2 rfl).2] at this; simpa [Value.cells] using this
  have := hi 3 f3 rfl; rw [(H1 3 f3 rfl).1, (H1 3 f3 rfl).2] at this; simpa [Value.cells] using this
  have := hi 4 f4 rfl; rw [(H1 4 f4 rfl).1, (H1 4 f4 rfl).2] at this; simpa [Value.cells] using this
def gK (a : BitVec 64) : Int := (a.toNat : Int)
theorem vP (a : BitVec 64) : BitVec.ofInt IntKind.u64.bits (gK a) = a := by
 show BitVec.ofInt 64 (a.toNat : Int) = a
 simp
theorem yS (a : BitVec 64) : IntKind.u64.wrap ((BitVec.toNat a : Nat) : Int) = gK a := by
 have := a.isLt
 unfold gK IntKind.wrap
 simp only [IntKind.signed, Bool.false_and, Bool.false_eq_true, if_false, IntKind.bits]
 omega
theorem NW (a b : BitVec 64) : bits .xor .u64 (gK a) (gK b) = gK (a ^^^ b) := by
 unfold bits
 simp only [vP]
 exact yS (a ^^^ b)
theorem Ej (a b : BitVec 64) : bits .or .u64 (gK a) (gK b) = gK (a ||| b) := by
 unfold bits
 simp only [vP]
 exact yS (a ||| b)
theorem ZG (a b : BitVec 64) : bits .and .u64 (gK a) (gK b) = gK (a &&& b) := by
 unfold bits
 simp only [vP]
 exact yS (a &&& b)
theorem NX (z : Int) : IntKind.u64.wrap z = z % 18446744073709551616 := by
 unfold IntKind.wrap
 simp only [IntKind.signed, Bool.false_and, Bool.false_eq_true, if_false]
 rfl
theorem NY (a : BitVec 64) (n : Nat) : IntKind.u64.wrap (gK a * 2 ^ n) = gK (a <<< n) := by
 rw [NX]
 unfold gK
 rw [BitVec.toNat_shiftLeft, Nat.shiftLeft_eq, Int.natCast_emod, Int.natCast_mul, Int.natCast_pow]
 rfl
theorem NZ (a : BitVec 64) (n : Nat) : gK a / 2 ^ n = gK (a >>> n) := by
 unfold gK
 simp only [BitVec.toNat_ushiftRight, Nat.shiftRight_eq_div_pow]
 push_cast
 rfl
theorem HT (w : World) (x : BitVec 64) (n : Nat) (h1 : 1 ≤ n) (h2 : n ≤ 63) :
    Calls Tryz.prog 148 #[.int .u64 (gK x), .int .i64 n] w (cS w (.int .u64 (gK (pB x n)))) := by
 go_enter Tryz.func148, Tryz.ntmps148
 go_wp2_with fail
 go_quiet (fail)
 go_wp2_with fail
 go_ret
 rw [NY, NZ, Ej]
 exact ⟨rfl, ⟨rfl, rfl, rfl, Nat.le_refl _, fun _ _ => rfl⟩⟩
theorem fM (w : World) : (isAgg 215).run Tryz.prog w = .ok false w := by kernel_rfl
theorem qS : (Tryz.prog.info? 215).map (·.size) = some 1 := by kernel_rfl
theorem cN (w : World) : (sizeOf 215).run Tryz.prog w = .ok 1 w := by kernel_rfl
theorem ZH : (Tryz.prog.info? 233).map (·.size) = some 5 := by kernel_rfl
theorem OA (w : World) : (zeroValue 233).run Tryz.prog w = .ok (.agg #[.int .u64 0, .int .u64 0, .int .u64 0, .int .u64 0, .int .u64 0]) w := by kernel_rfl
abbrev aR (a : BitVec 64) : Value := .int .u64 (gK a)
theorem OB (n : Nat) (f : Nat → BitVec 64) (i : Nat) (h : i < n) : at0 (qZ n f) i = f i := by simp [at0, qZ, List.getD, h]
theorem oS {n : Nat} {f g : Nat → BitVec 64} (h : ∀ i, i < n → f i = g i) : qZ n f = qZ n g := List.map_congr_left (fun i hi => h i (List.mem_range.1 hi))
theorem OC (S : List (BitVec 64)) : qZ S.length (at0 S) = S := by
 apply List.ext_getElem (by simp [qZ])
 intro i h1 h2
 simp [qZ, at0, List.getD, h2]
theorem DM (n : Nat) (f : Nat → BitVec 64) (k : Nat) (v : BitVec 64) : (qZ n f).set k v = qZ n fun i => if i = k then v else f i := by
 apply List.ext_getElem (by simp [qZ])
 intro i h1 h2
 simp only [qZ, List.getElem_set, List.getElem_map, List.getElem_range]
 by_cases h : k = i
 ·subst h; simp
 ·rw [if_neg h, if_neg (fun e => h e.symm)]
theorem ZI : ∀ i, i < 24 → lN i < 25 := by decide
theorem HU : ∀ i, i < 24 → 1 ≤ mT i ∧ mT i ≤ 63 := by decide
def Tabs (w : World) : Prop := (∀ i, i < 24 → w.cell? ⟨2, i, none⟩ = some (.int .i64 (lN i))) ∧ (∀ i, i < 24 → w.cell? ⟨3, i, none⟩ = some (.int .i64 (mT i))) ∧ ∀ i, i < 24 → w.cell? ⟨4, i, none⟩ = some (.int .u64 (gK (yB i)))
theorem Tabs.lt {w : World} (h : Tabs w) : 2 < w.heap.size ∧ 3 < w.heap.size ∧ 4 < w.heap.size :=
  ⟨World.block_lt_of_cell? w ⟨2, 0, none⟩ (h.1 0 (by decide)), World.block_lt_of_cell? w ⟨3, 0, none⟩ (h.2.1 0 (by decide)), World.block_lt_of_cell? w ⟨4, 0, none⟩ (h.2.2 0 (by decide))⟩
theorem Tabs.below {w w' : World} {N : Nat} (h : Tabs w) (hb : Below N w w') (h1 : 2 < N) (h2 : 3 < N) (h3 : 4 < N) : Tabs w' :=
  ⟨fun i hi => by rw [hb.cell (p := ⟨2, i, none⟩) h1]; exact h.1 i hi, fun i hi => by rw [hb.cell (p := ⟨3, i, none⟩) h2]; exact h.2.1 i hi, fun i hi => by rw [hb.cell (p := ⟨4, i, none⟩) h3]; exact h.2.2 i hi⟩
def zR : Array Value := (wC.map fun i : Nat => Value.int .i64 (i : Int)).toArray
theorem VH {w : World} (h : Tabs w) : (Instr.loadAt 235 (.pointer (some ⟨2, 0, none⟩))).run Tryz.prog w = .ok (.agg zR) w := by
 unfold zR
 refine run_loadAt_mid (P := Tryz.prog) w 2 0 235 (wC.map fun i : Nat => Value.int .i64 (i : Int)) (.array 24 3) (fun j v hj => ?_) (by kernel_rfl) rfl (by kernel_rfl)
 have hj' : j < 24 := by
  have := (List.getElem?_eq_some_iff.1 hj).1
  simpa [wC] using this
 rw [Nat.zero_add, h.1 j hj', ← hj]
 unfold lN
 rw [List.getElem?_map, List.getD_eq_getElem?_getD]
 have : wC[j]? = some (wC[j]'(by simpa [wC] using hj')) := List.getElem?_eq_getElem _
 rw [this]
 rfl
theorem Tabs.at {w w' : World} (h : Tabs w) (hb : Below w.heap.size w w') : Tabs w' := h.below hb h.lt.1 h.lt.2.1 h.lt.2.2
theorem Ek {k : Nat} (h : k < 24) : zR[k]? = some (.int .i64 ((lN k : Nat) : Int)) := by
 unfold zR lN
 have hk : k < wC.length := by simpa [wC] using h
 simp [List.getElem?_map, List.getElem?_eq_getElem hk, List.getD_eq_getElem?_getD]
theorem fN {X : List (BitVec 64)} {i : Nat} (h : i < X.length) : (X.map aR)[i]? = some (aR (at0 X i)) := by
 simp [at0, List.getElem?_map, List.getElem?_eq_getElem h, List.getD_eq_getElem?_getD]
theorem nT {X : List (BitVec 64)} {j : Nat} {x : BitVec 64} (h : j < X.length) : cB (X.map aR) j [aR x] = (X.set j x).map aR := by
 unfold cB
 rw [List.map_set, List.set_eq_take_append_cons_drop, if_pos (by simpa using h)]
 simp
def cL (S : List (BitVec 64)) (k : Nat) : List (BitVec 64) := qZ 5 fun x => if x < k then XJ S x else 0
theorem KN (S : List (BitVec 64)) (k : Nat) : (cL S k).length = 5 := BQ _ _
theorem El (S : List (BitVec 64)) {k : Nat} (h : k < 5) : (cL S k).set k (XJ S k) = cL S (k + 1) := by
 unfold cL
 rw [DM]
 refine oS fun i hi => ?_
 by_cases e : i = k
 subst e; rw [if_pos rfl, if_pos (by omega)]
 rw [if_neg e]
 by_cases e2 : i < k
 rw [if_pos e2, if_pos (by omega)]
 rw [if_neg e2, if_neg (by omega)]
theorem Em (S : List (BitVec 64)) : cL S 0 = List.replicate 5 0 := by
 unfold cL qZ; rfl
theorem Hk (S : List (BitVec 64)) : cL S 5 = (List.range 5).map (XJ S) := by
 unfold cL
 exact oS fun i hi => if_pos hi
theorem AY (S C : List (BitVec 64)) (k : Nat) : (thL S C k).length = 25 := BQ _ _
theorem ZJ {S C : List (BitVec 64)} (h : S.length = 25) : thL S C 0 = S := by
 unfold thL
 rw [oS (g := at0 S) (fun i hi => if_neg (by omega))]
 have := OC S
 rwa [h] at this
theorem Hl {S C : List (BitVec 64)} {i : Nat} (h : i < 25) : at0 (thL S C i) i = at0 S i := by
 unfold thL
 rw [OB _ _ _ h, if_neg (by omega)]
theorem ZK (S C : List (BitVec 64)) {i : Nat} (h : i < 25) : (thL S C i).set i (Gc S C i) = thL S C (i + 1) := by
 unfold thL
 rw [DM]
 refine oS fun j hj => ?_
 by_cases e : j = i
 subst e; rw [if_pos rfl, if_pos (by omega)]
 rw [if_neg e]
 by_cases e2 : j < i
 rw [if_pos e2, if_pos (by omega)]
 rw [if_neg e2, if_neg (by omega)]
theorem tR {A : List (BitVec 64)} (h : A.length = 25) : ∀ k, (rA A k).1.length = 25
  | 0 => h
  | k + 1 => by simp [rA, tR h k]
def kD (B : List (BitVec 64)) (k : Nat) : List (BitVec 64) := qZ 25 fun i => if i < k then MH B i else at0 B i
theorem qT (B : List (BitVec 64)) (k : Nat) : (kD B k).length = 25 := BQ _ _
theorem VI {B : List (BitVec 64)} (h : B.length = 25) : kD B 0 = B := by
 unfold kD
 rw [oS (g := at0 B) (fun i hi => if_neg (by omega))]
 have := OC B
 rwa [h] at this
theorem xI {B : List (BitVec 64)} {k i : Nat} (h : k ≤ i) (hi : i < 25) : at0 (kD B k) i = at0 B i := by
 unfold kD
 rw [OB _ _ _ hi, if_neg (by omega)]
theorem VJ (B : List (BitVec 64)) {i : Nat} (h : i < 25) : (kD B i).set i (MH B i) = kD B (i + 1) := by
 unfold kD
 rw [DM]
 refine oS fun j hj => ?_
 by_cases e : j = i
 subst e; rw [if_pos rfl, if_pos (by omega)]
 rw [if_neg e]
 by_cases e2 : j < i
 rw [if_pos e2, if_pos (by omega)]
 rw [if_neg e2, if_neg (by omega)]
theorem ZL (B : List (BitVec 64)) : kD B 25 = Cc B := by
 unfold kD Cc
 exact oS fun i hi => if_pos hi
section
variable {P : Program} {ρ : Operand → Value} {w : World} {d : Option Tmp} {t X Y E : TypeId} {n : Nat} {pos : String} {after : Array Edge} {guard : Option (Nat × Bool)} {x y : Operand}
theorem Hm {cs : Array Value} {i : Nat} {v : Value} (hX : P.underlying X = some (.array n E)) (hs : (sizeOf E).run P w = .ok 1 w) (hx : ρ x = .agg cs) (hy : ρ y = .int .i64 i) (hi : i < n) (hb : (isAgg E).run P w = .ok false w) (hv : cs[i]? = some v) :
    (execOp ρ ⟨d, .index X x y, t, pos, after, guard⟩).run P w = .ok (.value v) w := by
 have h1 : (0 : Int) ≤ (i : Int) ∧ (i : Int) < (n : Int) := by omega
 simp [execOp, hx, hy, Instr.index, part, Sem.run_bind, run_underlying hX w, asIntOf, hs, h1, hb, hv, hi]
theorem fZ {b i : Nat} (hX : P.underlying X = some (.array n E)) (hs : (sizeOf E).run P w = .ok 1 w) (hx : ρ x = .pointer (some ⟨b, 0, none⟩)) (hy : ρ y = .int .i64 i) (hi : i < n) :
    (execOp ρ ⟨d, .indexAddr X x y, t, pos, after, guard⟩).run P w = .ok (.value (.pointer (some ⟨b, i, none⟩))) w := by
 have hadd : (⟨b, 0, none⟩ : Addr).add (i * 1) = ⟨b, i, none⟩ := by rw [Addr.add_mid]; simp
 have hlt : (0 : Int) ≤ (i : Int) ∧ (i : Int) < (n : Int) := by omega
 simp only [Nat.mul_one] at hadd
 simp [execOp, hx, hy, Instr.indexAt, Instr.sureAddr, asIntOf, Sem.run_bind, Sem.run_pure, Result.andThen_ok, run_underlying hX w, hs, hadd, hlt, hi]
theorem nN {a b : BitVec 64} (hx : ρ x = aR a) (hy : ρ y = aR b) : (execOp ρ ⟨d, .binOp .xor X x y Y, t, pos, after, guard⟩).run P w = .ok (.value (aR (a ^^^ b))) w := by
 refine kK hx hy ?_
 rw [eP _ (by simp)]
 show Result.ok (Value.int .u64 (bits .xor .u64 (gK a) (gK b))) w = _
 rw [NW]
theorem En {a b : BitVec 64} (hx : ρ x = aR a) (hy : ρ y = aR b) : (execOp ρ ⟨d, .binOp .and X x y Y, t, pos, after, guard⟩).run P w = .ok (.value (aR (a &&& b))) w := by
 refine kK hx hy ?_
 rw [eP _ (by simp)]
 show Result.ok (Value.int .u64 (bits .and .u64 (gK a) (gK b))) w = _
 rw [ZG]
theorem Eo {a : BitVec 64} (hx : ρ x = aR a) : (execOp ρ ⟨d, .unOp .xor X x, t, pos, after, guard⟩).run P w = .ok (.value (aR (~~~ a))) w := by
 have e : (18446744073709551615 : Int) = gK (BitVec.allOnes 64) := by decide
 have h : bits .xor .u64 (18446744073709551615 : Int) (gK a) = gK (~~~ a) := by rw [e, NW, BitVec.allOnes_xor]
 simp only [execOp, hx]
 show Result.ok (Next.value (.int .u64 (bits .xor .u64 (18446744073709551615 : Int) (gK a)))) w = _
 rw [h]
theorem pK {m n : Nat} (hx : ρ x = .int .i64 (m : Int)) (hy : ρ y = .int .i64 (n : Int)) (hn : 0 < n) (hm : m ≤ 9223372036854775807) : (execOp ρ ⟨d, .binOp .rem X x y Y, t, pos, after, guard⟩).run P w = .ok (.value (.int .i64 ((m % n : Nat) : Int))) w := by
 refine kK hx hy ?_
 rw [eP _ (by simp)]
 show (Op.intDiv .rem .i64 m n).run P w = _
 unfold Op.intDiv
 rw [if_neg (by omega)]
 show Result.ok (Value.int .i64 (Int.tmod (m : Int) (n : Int))) w = _
 rw [Int.tmod_eq_emod_of_nonneg (by omega)]
 rfl
end
theorem VK {P : Program} {ρ : Operand → Value} {w : World} {d : Option Tmp} {t X E : TypeId} {n : Nat} {pos : String} {after : Array Edge} {guard : Option (Nat × Bool)} {x lo hi : Operand} {b l h : Nat} (hX : P.underlying X = some (.array n E)) (hx : ρ x = .pointer (some ⟨b, 0, none⟩)) (hsz : (sizeOf E).run P w = .ok 1 w) (hl : ρ lo = .int .i64 (l : Int)) (hh : ρ hi = .int .i64 (h : Int)) (h1 : l ≤ h) (h2 : h ≤ n) (h3 : l < n) :
    (execOp ρ ⟨d, .slice X x (some lo) (some hi) none, t, pos, after, guard⟩).run P w = .ok (.value (.slice (some ⟨b, l, none⟩) (h - l) (n - l))) w := by
 have b1 : ∀ (z y : Nat) (code : BoundsCode), z ≤ y → (Instr.sliceBound (.int .i64 z) y code).run P w = .ok z w := by
  intro z y code hzy
  have : (0 : Int) ≤ (z : Int) ∧ (z : Int) ≤ (y : Int) := by omega
  simp [Instr.sliceBound, asIntOf, this]
 have hb : (Instr.sliceBounds false n n (some (.int .i64 l)) (some (.int .i64 h)) none).run P w = .ok (l, h, n) w := by
  simp [Instr.sliceBounds, b1 _ _ _ h2, b1 _ _ _ h1]
 have hadd : (⟨b, 0, none⟩ : Addr).add l = ⟨b, l, none⟩ := by have := Addr.add_mid b 0 l; simpa using this
 have hn : ¬ n = l := by omega
 simp [execOp, hx, hl, hh, Instr.sliceAt, Instr.sureAddr, Sem.run_bind, Sem.run_pure, Result.andThen_ok, run_underlying hX w, hb, hsz, hadd, hn]
theorem Hn {P : Program} {ρ : Operand → Value} {w : World} {d : Option Tmp} {t X E : TypeId} {n : Nat} {pos : String} {after : Array Edge} {guard : Option (Nat × Bool)} {x : Operand} {a : Option Addr} {l c : Nat} (hX : P.underlying X = some (.array n E)) (hx : ρ x = .slice a l c) (hl : n ≤ l) :
    (execOp ρ ⟨d, .sliceToArrayPointer X x, t, pos, after, guard⟩).run P w = .ok (.value (.pointer a)) w := by
 have : ¬ l < n := by omega
 simp [execOp, hx, Instr.arrayAt, Sem.run_bind, Sem.run_pure, run_underlying hX w, this]
theorem St.cellsAt {w0 w : World} {F0 F : Fz} {L : List Blk} {M : List RowP} (S : St w0 F0 w F L M) {i : Nat} {n : Nat} {c : List Value} {t : TypeId} (h : L[i]? = some ⟨n, c, t⟩) : ∀ j v, c[j]? = some v → w.cell? ⟨n, j, none⟩ = some v := fun j v hv => St.cell S h hv
theorem ZM {w : World} {n : Nat} {X : List (BitVec 64)} {y : Nat} (h : ∀ (j : Nat) v, (X.map aR)[j]? = some v → w.cell? ⟨n, j, none⟩ = some v) (hy : y + 5 ≤ X.length) :
    (Instr.loadAt 233 (.pointer (some ⟨n, y, none⟩))).run Tryz.prog w = .ok (.agg #[aR (at0 X y), aR (at0 X (y + 1)), aR (at0 X (y + 2)), aR (at0 X (y + 3)), aR (at0 X (y + 4))]) w := by
 refine run_loadAt_mid (P := Tryz.prog) w n y 233 [aR (at0 X y), aR (at0 X (y + 1)), aR (at0 X (y + 2)), aR (at0 X (y + 3)), aR (at0 X (y + 4))] (.array 5 215) (fun j v hj => ?_) (by kernel_rfl) rfl (by kernel_rfl)
 refine h _ _ ?_
 have hj5 : j < 5 := by have := (List.getElem?_eq_some_iff.1 hj).1; simpa using this
 rw [fN (by omega), ← hj]
 rcases (by omega : j = 0 ∨ j = 1 ∨ j = 2 ∨ j = 3 ∨ j = 4) with rfl | rfl | rfl | rfl | rfl <;> rfl
theorem Ep (A : List (BitVec 64)) (k : Nat) : (rA A k).1.set (lN k) (pB (rA A k).2 (mT k)) = (rA A (k + 1)).1 := rfl
def oT (Q : List (BitVec 64)) (y : Nat) : List (BitVec 64) := [at0 Q y, at0 Q (y + 1), at0 Q (y + 2), at0 Q (y + 3), at0 Q (y + 4)]
theorem DN (Q : List (BitVec 64)) (y : Nat) : (oT Q y).length = 5 := rfl
theorem KO {Q : List (BitVec 64)} {y x : Nat} (h : x < 5) : at0 (oT Q y) x = at0 Q (y + x) := by
 rcases (by omega : x = 0 ∨ x = 1 ∨ x = 2 ∨ x = 3 ∨ x = 4) with rfl | rfl | rfl | rfl | rfl <;> rfl
theorem ZN {Q : List (BitVec 64)} {y : Nat} (h : y + 5 ≤ 25) : oT (kD Q y) y = oT Q y := by
 unfold oT
 rw [xI (by omega) (by omega), xI (by omega) (by omega), xI (by omega) (by omega), xI (by omega) (by omega), xI (by omega) (by omega)]
theorem Es {Q : List (BitVec 64)} {y x : Nat} (hy : y % 5 = 0) (hx : x < 5) : at0 (oT Q y) x ^^^ (~~~ (at0 (oT Q y) ((x + 1) % 5)) &&& at0 (oT Q y) ((x + 2) % 5)) = MH Q (y + x) := by
 unfold MH
 rw [KO hx, KO (by omega), KO (by omega), show (y + x) / 5 * 5 = y from by omega, show (y + x) % 5 = x from by omega]
theorem In {fn : Func} {tmps : Array Value} {P : Program} {w : World} (h : fn.results = #[]) : (results fn tmps).run P w = .ok (.tuple #[]) w := by simp [results, h]
theorem VL {w0 w : World} {F0 F : Fz} {L0 : List Blk} {M0 : List RowP} {rb r : Nat} {Z : List (BitVec 64)} (S : St w0 F0 w F (⟨rb, Z.map aR, 217⟩ :: L0) M0) (hl : Z.length = 25) (hT : Tabs w0) (hr : r < 24) :
    Calls Tryz.prog 138 #[.pointer (some ⟨rb, 0, none⟩), .int .i64 ((r : Nat) : Int)] w fun e w' => e = .returned (.tuple #[]) ∧ St w0 F0 w' F (⟨rb, (GS Z r).map aR, 217⟩ :: L0) M0 := by
 go_enter Tryz.func138, Tryz.ntmps138
 refine sk fun K1 hK1 => ?_
 refine sA S (OA _) fun n2 w3 S4 => ?_
 refine wn hK1 ?_
 refine aE fun K5 hK5 => ?_
 refine sk fun K6 hK6 => ?_
 refine dx ?_
 refine wn hK6 ?_
 refine aM ?_
 have S4 : St w0 F0 w3 F (⟨n2, ((cL Z 0).map aR), 233⟩ :: ⟨rb, (Z.map aR), 217⟩ :: L0) (M0) := by rw [Em]; exact S4
 refine bC (fun mm aa w8 => ∃ (k1 : Nat) (u7 : Nat → Value), mm = 5 - k1 ∧ u7 = eI aa ∧ aa = ⟨([(pP rb 0), (nI r), undef, undef, (pP n2 0), (u7 5)] ++ (udF 8 ([(nI k1)] ++ (usF u7 15 38 (udF 98 []))))).toArray, []⟩ ∧ St w0 F0 w8 F (⟨n2, ((cL Z k1).map aR), 233⟩ :: ⟨rb, (Z.map aR), 217⟩ :: L0) (M0) ∧ (k1 ≤ 5)) _ ⟨0, _, rfl, rfl, rfl, S4, (by omega)⟩ ?_
 rintro m9 k6 h5 ⟨k1, u7, rfl, -, hfr, a5, hk1⟩ k7 d5
 simp only [uzF, Nat.reduceAdd] at hfr; subst hfr
 refine sk fun k8 b7 => ?_
 by_cases h6 : k1 < 5
 refine fJ ?_
 simp only [pq]
 refine wn b7 ?_
 refine aE fun k9 d6 => ?_
 refine aL ?_
 refine aH ?_
 refine d6 _ _ ?_
 refine aE fun l0 d7 => ?_
 refine aM ?_
 refine sk fun l1 d8 => ?_
 refine aC ?_
 refine wn d8 ?_
 refine aS F 34 [] (by kernel_rfl) (by kernel_rfl) ?_
 simp only [dC]
 refine gm ?_
 simp only [pq]
 iterate 2 refine gm ?_
 refine gi ?_
 simp only [pq]
 refine gv (pP rb k1) (fun _ _ => fZ (i := k1) Tryz.underlying217 (cN _) rfl rfl (by omega)) ?_
 refine gv _ (fun _ a6 => aD rfl (aT (fM _) (St.cell (St.tells a5 a6) (i := 1) rfl (fN (Nat.lt_of_lt_of_eq (show k1 < 25 by omega) hl.symm))))) ?_
 refine gm ?_
 simp only [pq]
 refine gm ?_
 refine gv (nI (k1 + 5)) (fun _ _ => hY (m := ((k1 : Nat) : Int)) (n := (5 : Int)) (r := (((k1 + 5) : Nat) : Int)) rfl rfl (by omega) (by omega) (by omega)) ?_
 refine gi ?_
 simp only [pq]
 refine gv (pP rb ((k1 + 5))) (fun _ _ => fZ (i := (k1 + 5)) Tryz.underlying217 (cN _) rfl rfl (by omega)) ?_
 refine gv _ (fun _ a6 => aD rfl (aT (fM _) (St.cell (St.tells a5 a6) (i := 1) rfl (fN (Nat.lt_of_lt_of_eq (show (k1 + 5) < 25 by omega) hl.symm))))) ?_
 refine gv (aR ((at0 Z k1) ^^^ (at0 Z (k1 + 5)))) (fun _ _ => nN rfl rfl) ?_
 simp only [pq]
 iterate 2 refine gm ?_
 refine gv (nI (k1 + 10)) (fun _ _ => hY (m := ((k1 : Nat) : Int)) (n := (10 : Int)) (r := (((k1 + 10) : Nat) : Int)) rfl rfl (by omega) (by omega) (by omega)) ?_
 simp only [pq]
 refine gi ?_
 refine gv (pP rb ((k1 + 10))) (fun _ _ => fZ (i := (k1 + 10)) Tryz.underlying217 (cN _) rfl rfl (by omega)) ?_
 refine gv _ (fun _ a6 => aD rfl (aT (fM _) (St.cell (St.tells a5 a6) (i := 1) rfl (fN (Nat.lt_of_lt_of_eq (show (k1 + 10) < 25 by omega) hl.symm))))) ?_
 simp only [pq]
 refine gv (aR (((at0 Z k1) ^^^ (at0 Z (k1 + 5))) ^^^ (at0 Z (k1 + 10)))) (fun _ _ => nN rfl rfl) ?_
 iterate 2 refine gm ?_
 simp only [pq]
 refine gv (nI (k1 + 15)) (fun _ _ => hY (m := ((k1 : Nat) : Int)) (n := (15 : Int)) (r := (((k1 + 15) : Nat) : Int)) rfl rfl (by omega) (by omega) (by omega)) ?_
 refine gi ?_
 refine gv (pP rb ((k1 + 15))) (fun _ _ => fZ (i := (k1 + 15)) Tryz.underlying217 (cN _) rfl rfl (by omega)) ?_
 simp only [pq]
 refine gv _ (fun _ a6 => aD rfl (aT (fM _) (St.cell (St.tells a5 a6) (i := 1) rfl (fN (Nat.lt_of_lt_of_eq (show (k1 + 15) < 25 by omega) hl.symm))))) ?_
 refine gv (aR ((((at0 Z k1) ^^^ (at0 Z (k1 + 5))) ^^^ (at0 Z (k1 + 10))) ^^^ (at0 Z (k1 + 15)))) (fun _ _ => nN rfl rfl) ?_
 refine gm ?_
 simp only [pq]
 refine gm ?_
 refine gv (nI (k1 + 20)) (fun _ _ => hY (m := ((k1 : Nat) : Int)) (n := (20 : Int)) (r := (((k1 + 20) : Nat) : Int)) rfl rfl (by omega) (by omega) (by omega)) ?_
 refine gi ?_
 simp only [pq]
 refine gv (pP rb ((k1 + 20))) (fun _ _ => fZ (i := (k1 + 20)) Tryz.underlying217 (cN _) rfl rfl (by omega)) ?_
 refine gv _ (fun _ a6 => aD rfl (aT (fM _) (St.cell (St.tells a5 a6) (i := 1) rfl (fN (Nat.lt_of_lt_of_eq (show (k1 + 20) < 25 by omega) hl.symm))))) ?_
 refine gv (aR (((((at0 Z k1) ^^^ (at0 Z (k1 + 5))) ^^^ (at0 Z (k1 + 10))) ^^^ (at0 Z (k1 + 15))) ^^^ (at0 Z (k1 + 20)))) (fun _ _ => nN rfl rfl) ?_
 simp only [pq]
 refine cA ?_
 intro l2 d9 e0
 clear e0
 have h7 := St.tells a5 d9
 simp only [dD]
 refine dr (pP n2 k1) (fZ (i := k1) Tryz.underlying233 (cN _) rfl rfl (by omega)) ?_
 refine gL (i := 0) (v := aR (((((at0 Z k1) ^^^ (at0 Z (k1 + 5))) ^^^ (at0 Z (k1 + 10))) ^^^ (at0 Z (k1 + 15))) ^^^ (at0 Z (k1 + 20)))) h7 rfl rfl rfl rfl (qS) (lO rfl) (by rw [List.length_map, (KN _ _)]; show k1 + 1 ≤ 5; omega) (fun h0 b0 => ?_)
 simp only [pq]
 have b0 : St w0 F0 h0 F (⟨n2, (cB ((cL Z k1).map aR) k1 [aR (((((at0 Z k1) ^^^ (at0 Z (k1 + 5))) ^^^ (at0 Z (k1 + 10))) ^^^ (at0 Z (k1 + 15))) ^^^ (at0 Z (k1 + 20)))]), 233⟩ :: ⟨rb, (Z.map aR), 217⟩ :: L0) (M0) := b0
 rw [nT (Nat.lt_of_lt_of_eq (show k1 < 5 by omega) (KN _ _).symm)] at b0
 have b0 : St w0 F0 h0 F (⟨n2, (((cL Z k1).set k1 (XJ Z k1)).map aR), 233⟩ :: ⟨rb, (Z.map aR), 217⟩ :: L0) (M0) := b0
 rw [El Z (by omega)] at b0
 refine wlK d7 ?_
 refine aB ?_
 refine cR (k1 + 1) ?_
 refine dx ?_
 refine aG ?_
 exact d5 _ _ _ (by omega) ⟨(k1 + 1), _, rfl, rfl, rfl, b0, (by omega)⟩
 refine fC ?_
 simp only [pq]
 refine wn b7 ?_
 refine aE fun l3 h8 => ?_
 refine aF ?_
 refine dF ?_
 refine hK5 _ _ ?_
 refine aE fun l4 e1 => ?_
 refine aE fun l5 e2 => ?_
 obtain rfl : k1 = 5 := by omega
 refine aB ?_
 refine dx ?_
 refine wlK e2 ?_
 refine aM ?_
 have a5 : St w0 F0 h5 F (⟨n2, ((cL Z 5).map aR), 233⟩ :: ⟨rb, ((thL Z (cL Z 5) 0).map aR), 217⟩ :: L0) (M0) := by rw [ZJ hl]; exact a5
 refine bC (fun mm aa h9 => ∃ (k2 : Nat) (a1 : Nat → Value), mm = 25 - k2 ∧ a1 = eI aa ∧ aa = ⟨([(pP rb 0), (nI r), undef, undef, (pP n2 0), (u7 5), (a1 6), (a1 7)] ++ (udF 6 ([(iI 5), bF] ++ (usF u7 16 37 ([(nI k2)] ++ (usF a1 54 25 (udF 72 []))))))).toArray, []⟩ ∧ St w0 F0 h9 F (⟨n2, ((cL Z 5).map aR), 233⟩ :: ⟨rb, ((thL Z (cL Z 5) k2).map aR), 217⟩ :: L0) (M0) ∧ (k2 ≤ 25)) _ ⟨0, _, rfl, rfl, rfl, a5, (by omega)⟩ ?_
 rintro l6 l7 l8 ⟨k2, a1, rfl, -, hfr, a7, hk2⟩ l9 e3
 simp only [uzF, Nat.reduceAdd] at hfr; subst hfr
 refine sk fun m0 b9 => ?_
 by_cases i0 : k2 < 25
 refine fJ ?_
 refine wn b9 ?_
 refine aE fun m1 e4 => ?_
 refine aL ?_
 refine aH ?_
 refine e4 _ _ ?_
 refine aE fun m2 e5 => ?_
 refine aM ?_
 refine sk fun m3 e6 => ?_
 refine aC ?_
 refine wn e6 ?_
 refine sk fun m4 e7 => ?_
 refine dx ?_
 refine dr (nI (k2 % 5)) (pK (m := k2) (n := 5) rfl rfl (by decide) (by omega)) ?_
 refine dy ?_
 simp only [pq]
 refine wn e7 ?_
 refine aS F 19 [(15, .is (aR (pB (at0 (cL Z 5) (((k2 % 5) + 1) % 5)) 1)))] (by kernel_rfl) (by kernel_rfl) ?_
 simp only [dC]
 iterate 2 refine gm ?_
 refine gi ?_
 simp only [pq]
 refine gv (pP rb k2) (fun _ _ => fZ (i := k2) Tryz.underlying217 (cN _) rfl rfl (by omega)) ?_
 refine gv _ (fun _ b6 => aD rfl (aT (fM _) (St.cell (St.tells a7 b6) (i := 1) rfl (fN (Nat.lt_of_lt_of_eq (show k2 < 25 by omega) (AY _ _ _).symm))))) ?_
 refine gm ?_
 simp only [pq]
 refine gv (nI ((k2 % 5) + 4)) (fun _ _ => hY (m := (((k2 % 5) : Nat) : Int)) (n := (4 : Int)) (r := ((((k2 % 5) + 4) : Nat) : Int)) rfl rfl (by omega) (by omega) (by omega)) ?_
 refine gv (.int .i64 (((((k2 % 5) + 4) % 5) : Nat) : Int)) (fun _ _ => pK (m := ((k2 % 5) + 4)) (n := 5) rfl rfl (by decide) (by omega)) ?_
 refine gv (pP n2 ((((k2 % 5) + 4) % 5))) (fun _ _ => fZ (i := (((k2 % 5) + 4) % 5)) Tryz.underlying233 (cN _) rfl rfl (by omega)) ?_
 simp only [pq]
 refine gv _ (fun _ b6 => aD rfl (aT (fM _) (St.cell (St.tells a7 b6) (i := 0) rfl (fN (Nat.lt_of_lt_of_eq (show (((k2 % 5) + 4) % 5) < 5 by omega) (KN _ _).symm))))) ?_
 refine gm ?_
 refine gv (nI ((k2 % 5) + 1)) (fun _ _ => hY (m := (((k2 % 5) : Nat) : Int)) (n := (1 : Int)) (r := ((((k2 % 5) + 1) : Nat) : Int)) rfl rfl (by omega) (by omega) (by omega)) ?_
 simp only [pq]
 refine gv (.int .i64 (((((k2 % 5) + 1) % 5) : Nat) : Int)) (fun _ _ => pK (m := ((k2 % 5) + 1)) (n := 5) rfl rfl (by decide) (by omega)) ?_
 refine gv (pP n2 ((((k2 % 5) + 1) % 5))) (fun _ _ => fZ (i := (((k2 % 5) + 1) % 5)) Tryz.underlying233 (cN _) rfl rfl (by omega)) ?_
 refine gv _ (fun _ b6 => aD rfl (aT (fM _) (St.cell (St.tells a7 b6) (i := 0) rfl (fN (Nat.lt_of_lt_of_eq (show (((k2 % 5) + 1) % 5) < 5 by omega) (KN _ _).symm))))) ?_
 simp only [pq]
 refine gU rfl rfl (v := (aR (pB (at0 (cL Z 5) (((k2 % 5) + 1) % 5)) 1))) (fun m5 b6 _ => bK (cK (vs := #[(aR (at0 (cL Z 5) (((k2 % 5) + 1) % 5))), (iI 1)]) (gP rfl rfl) rfl (TB _ _)) (hU (HT _ (at0 (cL Z 5) (((k2 % 5) + 1) % 5)) 1 (by decide) (by decide)))) ?_
 refine gv (aR ((at0 (cL Z 5) (((k2 % 5) + 4) % 5)) ^^^ (pB (at0 (cL Z 5) (((k2 % 5) + 1) % 5)) 1))) (fun _ _ => nN rfl rfl) ?_
 refine gv (aR ((at0 (thL Z (cL Z 5) k2) k2) ^^^ ((at0 (cL Z 5) (((k2 % 5) + 4) % 5)) ^^^ (pB (at0 (cL Z 5) (((k2 % 5) + 1) % 5)) 1)))) (fun _ _ => nN rfl rfl) ?_
 refine gi ?_
 simp only [pq]
 refine cA ?_
 intro m6 e8 e9
 clear e9
 have i1 := St.tells a7 e8
 simp only [dD]
 refine dr (pP rb k2) (fZ (i := k2) Tryz.underlying217 (cN _) rfl rfl (by omega)) ?_
 refine gL (i := 1) (v := aR ((at0 (thL Z (cL Z 5) k2) k2) ^^^ ((at0 (cL Z 5) (((k2 % 5) + 4) % 5)) ^^^ (pB (at0 (cL Z 5) (((k2 % 5) + 1) % 5)) 1)))) i1 rfl rfl rfl rfl (qS) (lO rfl) (by rw [List.length_map, (AY _ _ _)]; show k2 + 1 ≤ 25; omega) (fun h1 a8 => ?_)
 simp only [pq]
 have a8 : St w0 F0 h1 F (⟨n2, ((cL Z 5).map aR), 233⟩ :: ⟨rb, (cB ((thL Z (cL Z 5) k2).map aR) k2 [aR ((at0 (thL Z (cL Z 5) k2) k2) ^^^ ((at0 (cL Z 5) (((k2 % 5) + 4) % 5)) ^^^ (pB (at0 (cL Z 5) (((k2 % 5) + 1) % 5)) 1)))]), 217⟩ :: L0) (M0) := a8
 rw [nT (Nat.lt_of_lt_of_eq (show k2 < 25 by omega) (AY _ _ _).symm)] at a8
 rw [Hl (S := Z) (C := (cL Z 5)) (i := k2) (by omega)] at a8
 have a8 : St w0 F0 h1 F (⟨n2, ((cL Z 5).map aR), 233⟩ :: ⟨rb, (((thL Z (cL Z 5) k2).set k2 (Gc Z (cL Z 5) k2)).map aR), 217⟩ :: L0) (M0) := a8
 rw [ZK Z _ (by omega)] at a8
 refine wlK e5 ?_
 refine aB ?_
 refine cR (k2 + 1) ?_
 refine dx ?_
 refine aG ?_
 exact e3 _ _ _ (by omega) ⟨(k2 + 1), _, rfl, rfl, rfl, a8, (by omega)⟩
 refine fC ?_
 simp only [pq]
 refine wn b9 ?_
 refine aE fun m7 i2 => ?_
 refine aF ?_
 refine dF ?_
 refine e1 _ _ ?_
 refine aE fun m8 f0 => ?_
 obtain rfl : k2 = 25 := by omega
 obtain ⟨A, hA⟩ : ∃ A, A = thL Z (cL Z 5) 25 := ⟨_, rfl⟩
 have hAl : A.length = 25 := by rw [hA]; exact AY _ _ _
 rw [← hA] at a7
 refine aB ?_
 refine aC ?_
 refine dr (pP rb 1) (fZ (i := 1) Tryz.underlying217 (cN _) rfl rfl (by omega)) ?_
 simp only [pq]
 refine dr _ (aD rfl (aT (fM _) (St.cell a7 (i := 1) rfl (fN (Nat.lt_of_lt_of_eq (show 1 < 25 by omega) hAl.symm))))) ?_
 refine dy ?_
 refine wlK f0 ?_
 refine aE fun n0 f1 => ?_
 refine sk fun n1 f2 => ?_
 refine dr (.agg zR) (aD rfl (VH (hT.at a7.gr.below))) ?_
 refine dx ?_
 simp only [pq]
 refine wn f2 ?_
 refine aM ?_
 refine bC (fun mm aa i3 => ∃ (k3 : Nat) (a2 : Nat → Value), mm = 24 - k3 ∧ a2 = eI aa ∧ aa = ⟨([(pP rb 0), (nI r), undef, undef, (pP n2 0), (u7 5), (a1 6), (a1 7), (aR (rA A k3).2), (a2 9), (a2 10), undef, undef, undef, (iI 5), bF] ++ (usF u7 16 37 ([(iI 25), bF] ++ (usF a1 55 24 ([(pP rb 0), (pP rb 0), (pP rb 1), (aR (at0 A 1)), (.agg zR), (nI k3)] ++ (usF a2 85 18 (udF 48 []))))))).toArray, []⟩ ∧ St w0 F0 i3 F (⟨n2, ((cL Z 5).map aR), 233⟩ :: ⟨rb, ((rA A k3).1.map aR), 217⟩ :: L0) (M0) ∧ (k3 ≤ 24)) _ ⟨0, _, rfl, rfl, rfl, a7, (by omega)⟩ ?_
 rintro n3 n4 i4 ⟨k3, a2, rfl, -, hfr, b1, hk3⟩ n5 f3
 simp only [uzF, Nat.reduceAdd] at hfr; subst hfr
 refine sk fun n6 c0 => ?_
 by_cases i5 : k3 < 24
 refine fJ ?_
 refine wn c0 ?_
 refine aE fun n7 f4 => ?_
 refine aL ?_
 refine aH ?_
 refine f4 _ _ ?_
 refine aE fun n8 f5 => ?_
 refine aM ?_
 refine aE fun n9 f6 => ?_
 have hgo := ZI k3 (by omega)
 refine aB ?_
 refine dx ?_
 refine dr (nI (lN k3)) (Hm (i := k3) Tryz.underlying235 (eC _) rfl rfl (by omega) (bM _) (Ek (by omega))) ?_
 refine aC ?_
 refine wlK f6 ?_
 refine aS F 13 [(6, .is (aR (pB ((rA A k3).2) (mT k3))))] (by kernel_rfl) (by kernel_rfl) ?_
 simp only [dC]
 iterate 2 refine gm ?_
 simp only [pq]
 iterate 2 refine gm ?_
 refine gv (pP 3 k3) (fun _ _ => fZ (i := k3) Tryz.underlying235 (eC _) rfl rfl (by omega)) ?_
 simp only [pq]
 refine gv _ (fun _ d2 => aD rfl (aT (bM _) (((hT.at (St.tells b1 d2).gr.below).2.1 k3 (by omega))))) ?_
 simp only [pq]
 refine gU rfl rfl (v := (aR (pB ((rA A k3).2) (mT k3)))) (fun o0 d2 _ => bK (cK (vs := #[(aR (rA A k3).2), (nI (mT k3))]) (gP rfl rfl) rfl (TB _ _)) (hU (HT _ ((rA A k3).2) (mT k3) (HU _ (by omega)).1 (HU _ (by omega)).2))) ?_
 iterate 2 refine gm ?_
 refine gi ?_
 simp only [pq]
 refine gv (pP rb ((lN k3))) (fun _ _ => fZ (i := (lN k3)) Tryz.underlying217 (cN _) rfl rfl (by omega)) ?_
 refine gv _ (fun _ d2 => aD rfl (aT (fM _) (St.cell (St.tells b1 d2) (i := 1) rfl (fN (Nat.lt_of_lt_of_eq (show (lN k3) < 25 by omega) (tR hAl _).symm))))) ?_
 refine gi ?_
 simp only [pq]
 refine cA ?_
 intro o1 f7 f8
 clear f8
 have i6 := St.tells b1 f7
 simp only [dD]
 refine dr (pP rb ((lN k3))) (fZ (i := (lN k3)) Tryz.underlying217 (cN _) rfl rfl (by omega)) ?_
 refine gL (i := 1) (v := aR (pB ((rA A k3).2) (mT k3))) i6 rfl rfl rfl rfl (qS) (lO rfl) (by rw [List.length_map, (tR hAl _)]; show (lN k3) + 1 ≤ 25; omega) (fun i7 c1 => ?_)
 simp only [pq]
 have c1 : St w0 F0 i7 F (⟨n2, ((cL Z 5).map aR), 233⟩ :: ⟨rb, (cB (((rA A k3).1).map aR) (lN k3) [aR (pB ((rA A k3).2) (mT k3))]), 217⟩ :: L0) (M0) := c1
 rw [nT (Nat.lt_of_lt_of_eq (show (lN k3) < 25 by omega) (tR hAl _).symm)] at c1
 rw [Ep] at c1
 refine dy ?_
 refine wlK f5 ?_
 refine aB ?_
 refine cR (k3 + 1) ?_
 refine dx ?_
 simp only [pq]
 refine aG ?_
 exact f3 _ _ _ (by omega) ⟨(k3 + 1), _, rfl, rfl, rfl, c1, (by omega)⟩
 refine fC ?_
 refine wn c0 ?_
 refine aE fun o2 i8 => ?_
 refine aF ?_
 refine dF ?_
 refine f1 _ _ ?_
 refine aE fun o3 f9 => ?_
 refine aE fun o4 g0 => ?_
 obtain rfl : k3 = 24 := by omega
 obtain ⟨Q, hQ⟩ : ∃ Q, Q = (rA A 24).1 := ⟨_, rfl⟩
 have hQl : Q.length = 25 := by rw [hQ]; exact tR hAl _
 rw [← hQ] at b1
 refine aB ?_
 refine dy ?_
 refine wlK g0 ?_
 refine aM ?_
 have b1 : St w0 F0 i4 F (⟨n2, ((cL Z 5).map aR), 233⟩ :: ⟨rb, ((kD Q 0).map aR), 217⟩ :: L0) (M0) := by rw [VI hQl]; exact b1
 refine bC (fun mm aa i9 => ∃ (y : Nat) (b2 : Nat → Value), mm = 25 - y ∧ b2 = eI aa ∧ aa = ⟨([(pP rb 0), (nI r), undef, undef, (pP n2 0), (u7 5), (a1 6), (a1 7), (aR (rA A 24).2), (a2 9), (a2 10), (nI y), (b2 12), (b2 13), (iI 5), bF] ++ (usF u7 16 37 ([(iI 25), bF] ++ (usF a1 55 24 ([(pP rb 0), (pP rb 0), (pP rb 1), (aR (at0 A 1)), (.agg zR), (iI 24), bF] ++ (usF a2 86 17 (usF b2 103 38 (udF 10 [])))))))).toArray, []⟩ ∧ St w0 F0 i9 F (⟨n2, ((cL Z 5).map aR), 233⟩ :: ⟨rb, ((kD Q y).map aR), 217⟩ :: L0) (M0) ∧ (y % 5 = 0) ∧ (y ≤ 25)) _ ⟨0, _, rfl, rfl, rfl, b1, (by omega), (by omega)⟩ ?_
 rintro o5 o6 o7 ⟨y, b2, rfl, -, hfr, c2, hy5, j0⟩ o8 g1
 simp only [uzF, Nat.reduceAdd] at hfr; subst hfr
 refine aE fun o9 g2 => ?_
 refine sk fun p0 c3 => ?_
 refine dx ?_
 simp only [pq]
 by_cases h2 : y < 25
 refine fJ ?_
 refine wn c3 ?_
 refine aL ?_
 refine aH ?_
 refine g2 _ _ ?_
 refine aE fun p1 g3 => ?_
 refine aM ?_
 refine sk fun p2 g4 => ?_
 refine aC ?_
 refine cR (y + 5) ?_
 refine dr (.slice (aA rb y) ((y + 5) - y) (25 - y)) (VK (l := y) (h := (y + 5)) Tryz.underlying217 rfl (cN _) rfl rfl (by omega) (by omega) (by omega)) ?_
 simp only [pq]
 refine dr (pP rb y) (Hn Tryz.underlying233 rfl (by omega)) ?_
 refine dr (.agg #[(aR (at0 (kD Q y) y)), (aR (at0 (kD Q y) (y + 1))), (aR (at0 (kD Q y) (y + 2))), (aR (at0 (kD Q y) (y + 3))), (aR (at0 (kD Q y) (y + 4)))]) (aD rfl (ZM (St.cellsAt c2 (i := 1) rfl) (show y + 5 ≤ (kD Q y).length from by rw [(qT _ _)]; omega))) ?_
 refine sA c2 (OA _) fun b3 p3 j1 => ?_
 simp only [pq]
 refine sW 0 j1 (ZH) fun j2 d3 => ?_
 refine wn g4 ?_
 refine sk fun p4 g5 => ?_
 refine dx ?_
 refine wn g5 ?_
 refine aM ?_
 have d3 : St w0 F0 j2 F (⟨b3, ((oT (kD Q y) y).map aR), 233⟩ :: ⟨n2, ((cL Z 5).map aR), 233⟩ :: ⟨rb, ((kD Q y).map aR), 217⟩ :: L0) (M0) := d3
 rw [ZN (by omega)] at d3
 refine bC (fun mm aa j3 => ∃ (k5 : Nat) (d4 : Nat → Value), mm = 5 - k5 ∧ d4 = eI aa ∧ aa = ⟨([(pP rb 0), (nI r), undef, undef, (pP n2 0), (u7 5), (a1 6), (a1 7), (aR (rA A 24).2), (a2 9), (a2 10), (nI y), (pP b3 0), (d4 13), (iI 5), bF] ++ (usF u7 16 37 ([(iI 25), bF] ++ (usF a1 55 24 ([(pP rb 0), (pP rb 0), (pP rb 1), (aR (at0 A 1)), (.agg zR), (iI 24), bF] ++ (usF a2 86 17 ([(nI y), bT, (b2 105), (b2 106), (pP rb 0), (pP rb 0), (nI y), (nI y), (nI (y + 5)), (.slice (aA rb y) ((y + 5) - y) (25 - y)), (pP rb y), (.agg #[(aR (at0 (kD Q y) y)), (aR (at0 (kD Q y) (y + 1))), (aR (at0 (kD Q y) (y + 2))), (aR (at0 (kD Q y) (y + 3))), (aR (at0 (kD Q y) (y + 4)))]), (nI k5)] ++ (usF d4 116 25 (udF 10 []))))))))).toArray, []⟩ ∧ St w0 F0 j3 F (⟨b3, ((oT Q y).map aR), 233⟩ :: ⟨n2, ((cL Z 5).map aR), 233⟩ :: ⟨rb, ((kD Q (y + k5)).map aR), 217⟩ :: L0) (M0) ∧ (k5 ≤ 5)) _ ⟨0, _, rfl, rfl, rfl, d3, (by omega)⟩ ?_
 rintro p5 p6 p7 ⟨k5, d4, rfl, -, hfr, b4, hk5⟩ j4 c4
 simp only [uzF, Nat.reduceAdd] at hfr; subst hfr
 refine sk fun j5 a9 => ?_
 by_cases h3 : k5 < 5
 refine fJ ?_
 simp only [pq]
 refine wn a9 ?_
 refine aE fun j6 c5 => ?_
 refine aL ?_
 refine aH ?_
 refine c5 _ _ ?_
 refine aE fun j7 c6 => ?_
 refine aM ?_
 refine sk fun j8 c7 => ?_
 refine aC ?_
 refine wn c7 ?_
 refine aS F 21 [] (by kernel_rfl) (by kernel_rfl) ?_
 simp only [dC]
 refine gm ?_
 simp only [pq]
 iterate 2 refine gm ?_
 refine gv (nI (y + k5)) (fun _ _ => hY (m := ((y : Nat) : Int)) (n := ((k5 : Nat) : Int)) (r := (((y + k5) : Nat) : Int)) rfl rfl (by omega) (by omega) (by omega)) ?_
 simp only [pq]
 refine gm ?_
 refine gv (pP b3 k5) (fun _ _ => fZ (i := k5) Tryz.underlying233 (cN _) rfl rfl (by omega)) ?_
 refine gv _ (fun _ a3 => aD rfl (aT (fM _) (St.cell (St.tells b4 a3) (i := 0) rfl (fN (Nat.lt_of_lt_of_eq (show k5 < 5 by omega) (DN _ _).symm))))) ?_
 simp only [pq]
 refine gm ?_
 refine gv (nI (k5 + 1)) (fun _ _ => hY (m := ((k5 : Nat) : Int)) (n := (1 : Int)) (r := (((k5 + 1) : Nat) : Int)) rfl rfl (by omega) (by omega) (by omega)) ?_
 refine gv (nI ((k5 + 1) % 5)) (fun _ _ => pK (m := (k5 + 1)) (n := 5) rfl rfl (by decide) (by omega)) ?_
 simp only [pq]
 refine gv (pP b3 (((k5 + 1) % 5))) (fun _ _ => fZ (i := ((k5 + 1) % 5)) Tryz.underlying233 (cN _) rfl rfl (by omega)) ?_
 refine gv _ (fun _ a3 => aD rfl (aT (fM _) (St.cell (St.tells b4 a3) (i := 0) rfl (fN (Nat.lt_of_lt_of_eq (show ((k5 + 1) % 5) < 5 by omega) (DN _ _).symm))))) ?_
 refine gv (aR (~~~ (at0 (oT Q y) ((k5 + 1) % 5)))) (fun _ _ => Eo rfl) ?_
 simp only [pq]
 refine gm ?_
 refine gv (nI (k5 + 2)) (fun _ _ => hY (m := ((k5 : Nat) : Int)) (n := (2 : Int)) (r := (((k5 + 2) : Nat) : Int)) rfl rfl (by omega) (by omega) (by omega)) ?_
 refine gv (nI ((k5 + 2) % 5)) (fun _ _ => pK (m := (k5 + 2)) (n := 5) rfl rfl (by decide) (by omega)) ?_
 simp only [pq]
 refine gv (pP b3 (((k5 + 2) % 5))) (fun _ _ => fZ (i := ((k5 + 2) % 5)) Tryz.underlying233 (cN _) rfl rfl (by omega)) ?_
 refine gv _ (fun _ a3 => aD rfl (aT (fM _) (St.cell (St.tells b4 a3) (i := 0) rfl (fN (Nat.lt_of_lt_of_eq (show ((k5 + 2) % 5) < 5 by omega) (DN _ _).symm))))) ?_
 refine gv (aR ((~~~ (at0 (oT Q y) ((k5 + 1) % 5))) &&& (at0 (oT Q y) ((k5 + 2) % 5)))) (fun _ _ => En rfl rfl) ?_
 simp only [pq]
 refine gv (aR ((at0 (oT Q y) k5) ^^^ ((~~~ (at0 (oT Q y) ((k5 + 1) % 5))) &&& (at0 (oT Q y) ((k5 + 2) % 5))))) (fun _ _ => nN rfl rfl) ?_
 refine gi ?_
 refine cA ?_
 intro j9 c8 c9
 clear c9
 have g6 := St.tells b4 c8
 simp only [dD]
 refine dr (pP rb ((y + k5))) (fZ (i := (y + k5)) Tryz.underlying217 (cN _) rfl rfl (by omega)) ?_
 simp only [pq]
 refine gL (i := 2) (v := aR ((at0 (oT Q y) k5) ^^^ ((~~~ (at0 (oT Q y) ((k5 + 1) % 5))) &&& (at0 (oT Q y) ((k5 + 2) % 5))))) g6 rfl rfl rfl rfl (qS) (lO rfl) (by rw [List.length_map, (qT _ _)]; show (y + k5) + 1 ≤ 25; omega) (fun g7 a4 => ?_)
 simp only [pq]
 have a4 : St w0 F0 g7 F (⟨b3, ((oT Q y).map aR), 233⟩ :: ⟨n2, ((cL Z 5).map aR), 233⟩ :: ⟨rb, (cB ((kD Q (y + k5)).map aR) (y + k5) [aR ((at0 (oT Q y) k5) ^^^ ((~~~ (at0 (oT Q y) ((k5 + 1) % 5))) &&& (at0 (oT Q y) ((k5 + 2) % 5))))]), 217⟩ :: L0) (M0) := a4
 rw [nT (Nat.lt_of_lt_of_eq (show (y + k5) < 25 by omega) (qT _ _).symm)] at a4
 rw [Es hy5 (by omega), VJ Q (by omega)] at a4
 refine wlK c6 ?_
 refine aB ?_
 refine cR (k5 + 1) ?_
 refine dx ?_
 refine aG ?_
 exact c4 _ _ _ (by omega) ⟨(k5 + 1), _, rfl, rfl, rfl, a4, (by omega)⟩
 refine fC ?_
 simp only [pq]
 refine wn a9 ?_
 refine aE fun k0 h4 => ?_
 refine aF ?_
 refine dF ?_
 refine g3 _ _ ?_
 obtain rfl : k5 = 5 := by omega
 refine aB ?_
 refine dx ?_
 refine cR (y + 5) ?_
 refine dy ?_
 simp only [pq]
 refine aG ?_
 have b4 := St.drop b4 (.cons _ (List.Sublist.refl _))
 exact g1 _ _ _ (by omega) ⟨(y + 5), _, rfl, rfl, rfl, b4, (by omega), (by omega)⟩
 refine fC ?_
 refine wn c3 ?_
 refine aF ?_
 refine dF ?_
 refine f9 _ _ ?_
 obtain rfl : y = 25 := by omega
 refine aS F 9 [] (by kernel_rfl) (by kernel_rfl) ?_
 simp only [dC]
 refine gm ?_
 refine gi ?_
 simp only [pq]
 refine gv (pP rb 0) (fun _ _ => fZ (i := 0) Tryz.underlying217 (cN _) rfl rfl (by omega)) ?_
 refine gv _ (fun _ b5 => aD rfl (aT (fM _) (St.cell (St.tells c2 b5) (i := 1) rfl (fN (Nat.lt_of_lt_of_eq (show 0 < 25 by omega) (qT _ _).symm))))) ?_
 refine gm ?_
 simp only [pq]
 refine gv (pP 4 r) (fun _ _ => fZ (i := r) Tryz.underlying218 (cN _) rfl rfl (by omega)) ?_
 refine gv _ (fun _ b5 => aD rfl (aT (fM _) (((hT.at (St.tells c2 b5).gr.below).2.2 r hr)))) ?_
 refine gv (aR ((at0 (kD Q 25) 0) ^^^ (yB r))) (fun _ _ => nN rfl rfl) ?_
 simp only [pq]
 refine gi ?_
 refine cA ?_
 intro k4 d0 d1
 clear d1
 have g8 := St.tells c2 d0
 simp only [dD]
 refine dr (pP rb 0) (fZ (i := 0) Tryz.underlying217 (cN _) rfl rfl (by omega)) ?_
 refine gL (i := 1) (v := aR ((at0 (kD Q 25) 0) ^^^ (yB r))) g8 rfl rfl rfl rfl (qS) (lO rfl) (by rw [List.length_map, (qT _ _)]; show 0 + 1 ≤ 25; omega) (fun g9 a0 => ?_)
 simp only [pq]
 have a0 : St w0 F0 g9 F (⟨n2, ((cL Z 5).map aR), 233⟩ :: ⟨rb, (cB ((kD Q 25).map aR) 0 [aR ((at0 (kD Q 25) 0) ^^^ (yB r))]), 217⟩ :: L0) (M0) := a0
 rw [nT (Nat.lt_of_lt_of_eq (show 0 < 25 by omega) (qT _ _).symm)] at a0
 refine aG ?_
 try simp only [xt]
 refine bE (In rfl) ?_
 rw [ZL] at a0
 have a0 := St.drop a0 (.cons _ (List.Sublist.refl _))
 rw [hQ, hA, Hk] at a0
 exact ⟨rfl, a0⟩
theorem Io {E base : Nat} {w : World} {F : Fz} {l : By} {a : Option Addr} {n c : Nat} (h : Own 1 ByC E base w F (.slice a n c) l) {i : Nat} {b : UInt8} (hp : l[i]? = some b) : ∃ g, a = some ⟨g, 0, none⟩ ∧ w.cell? ⟨g, 0 + i * 1, none⟩ = some (bv b) := by
 obtain ⟨g, cs, e, _, r, hr⟩ := h.at hp
 have r : cs = [bv b] := r
 subst r
 refine ⟨g, e, ?_⟩
 have := hr 0 _ rfl
 rw [Nat.zero_add]
 simpa using this
section
variable {P : Program} {ρ : Operand → Value} {w : World} {d : Option Tmp} {t X Y E : TypeId} {pos : String} {after : Array Edge} {guard : Option (Nat × Bool)} {x y : Operand}
theorem Ip (b : UInt8) : bits .or .u8 (b.toNat : Int) 128 = ((b ||| 128).toNat : Int) := by
 have e1 : BitVec.ofInt 8 (b.toNat : Int) = b.toBitVec := by rw [BitVec.ofInt_natCast]; simp
 have e2 : BitVec.ofInt 8 (128 : Int) = (128 : UInt8).toBitVec := by decide
 have e3 : (b ||| 128).toNat = (b.toBitVec ||| (128 : UInt8).toBitVec).toNat := by rw [← UInt8.toBitVec_or]; rfl
 have hlt := (b ||| 128).toNat_lt
 unfold bits
 show IntKind.u8.wrap (((BitVec.ofInt 8 (b.toNat : Int) ||| BitVec.ofInt 8 (128 : Int)).toNat : Nat) : Int) = _
 rw [e1, e2, ← e3, show IntKind.u8.wrap (((b ||| 128).toNat : Nat) : Int) = (((b ||| 128).toNat : Nat) : Int) % 256 from rfl]
 omega
theorem Ho {b : UInt8} (hx : ρ x = bv b) (hy : ρ y = .int .u8 128) : (execOp ρ ⟨d, .binOp .or X x y Y, t, pos, after, guard⟩).run P w = .ok (.value (bv (b ||| 128))) w := by
 refine kK hx hy ?_
 rw [eP _ (by simp)]
 show Result.ok (Value.int .u8 (bits .or .u8 (b.toNat : Int) 128)) w = _
 rw [Ip]; rfl
theorem TN {m n : Nat} (hx : ρ x = .int .i64 (m : Int)) (hy : ρ y = .int .i64 (n : Int)) (hn : 0 < n) (hm : m ≤ 9223372036854775807) : (execOp ρ ⟨d, .binOp .quo X x y Y, t, pos, after, guard⟩).run P w = .ok (.value (.int .i64 ((m / n : Nat) : Int))) w := by
 refine kK hx hy ?_
 rw [eP _ (by simp)]
 show (Op.intDiv .quo .i64 m n).run P w = _
 unfold Op.intDiv
 rw [if_neg (by omega)]
 show Result.ok (Value.int .i64 (IntKind.i64.wrap (Int.tdiv (m : Int) (n : Int)))) w = _
 have hle : m / n ≤ m := Nat.div_le_self m n
 rw [Int.tdiv_eq_ediv_of_nonneg (by omega), ← Int.natCast_ediv]
 generalize m / n = q at *
 rw [lV (by omega) (by omega)]
theorem Et {a : BitVec 64} {n : Nat} (hx : ρ x = aR a) (hy : ρ y = .int .i64 (n : Int)) (hn : n ≤ 64) : (execOp ρ ⟨d, .binOp .shl X x y Y, t, pos, after, guard⟩).run P w = .ok (.value (aR (a <<< n))) w := by
 have e : (eqGuard .shl X x y (.int .u64 (gK a)) (.int .i64 (n : Int))).run P w = .ok () w := rfl
 have h : (binOp .shl X (.int .u64 (gK a)) (.int .i64 (n : Int))).run P w = .ok (aR (a <<< n)) w := by
  show (Op.shift .shl .u64 (gK a) .i64 (n : Int)).run P w = _
  unfold Op.shift
  rw [if_neg (by omega)]
  show Result.ok (Value.int .u64 (IntKind.u64.wrap (gK a * 2 ^ (min (n : Int).toNat 64)))) w = _
  rw [Int.toNat_natCast, Nat.min_eq_left hn, NY]
 simp only [execOp, hx, hy, Sem.run_bind, e, Result.andThen_ok, h, Sem.run_pure]
theorem Eu {a : BitVec 64} {n : Nat} (hx : ρ x = aR a) (hy : ρ y = .int .i64 (n : Int)) (hn : n ≤ 64) : (execOp ρ ⟨d, .binOp .shr X x y Y, t, pos, after, guard⟩).run P w = .ok (.value (aR (a >>> n))) w := by
 have e : (eqGuard .shr X x y (.int .u64 (gK a)) (.int .i64 (n : Int))).run P w = .ok () w := rfl
 have h : (binOp .shr X (.int .u64 (gK a)) (.int .i64 (n : Int))).run P w = .ok (aR (a >>> n)) w := by
  show (Op.shift .shr .u64 (gK a) .i64 (n : Int)).run P w = _
  unfold Op.shift
  rw [if_neg (by omega)]
  show Result.ok (Value.int .u64 (Int.fdiv (gK a) (2 ^ (min (n : Int).toNat 64)))) w = _
  rw [Int.toNat_natCast, Nat.min_eq_left hn, Int.fdiv_eq_ediv_of_nonneg _ (show (0 : Int) ≤ 2 ^ n from Int.le_of_lt (Int.pow_pos (by decide))), NZ]
 simp only [execOp, hx, hy, Sem.run_bind, e, Result.andThen_ok, h, Sem.run_pure]
theorem ZO (b : UInt8) (w : World) : (convert 5 215 (bv b)).run Tryz.prog w = .ok (aR (BitVec.ofNat 64 b.toNat)) w := by
 have : (convert 5 215 (bv b)).run Tryz.prog w = .ok (.int .u64 (IntKind.u64.wrap (b.toNat : Int))) w := by kernel_rfl
 have hb := b.toNat_lt
 have e : IntKind.u64.wrap (b.toNat : Int) = gK (BitVec.ofNat 64 b.toNat) := by
  rw [NX]; unfold gK; simp; omega
 rw [this, e]
theorem ZP (a : BitVec 64) (w : World) : (convert 215 5 (aR a)).run Tryz.prog w = .ok (bv (UInt8.ofNat (a.toNat % 256))) w := by
 have : (convert 215 5 (aR a)).run Tryz.prog w = .ok (.int .u8 (IntKind.u8.wrap (gK a))) w := by kernel_rfl
 have e : IntKind.u8.wrap (gK a) = ((UInt8.ofNat (a.toNat % 256)).toNat : Int) := by
  rw [show IntKind.u8.wrap (gK a) = gK a % 256 from rfl]; unfold gK; simp
 rw [this, e]; rfl
end
def dW (b : By) (k : Nat) : By := (b ++ [6]) ++ List.replicate k 0
def eF (b : By) : Nat := (136 - (b.length + 1) % 136) % 136
theorem ZQ (b : By) (k : Nat) : (dW b k).length = b.length + 1 + k := by simp [dW]; omega
theorem VM (b : By) (k : Nat) : dW b k ++ [0] = dW b (k + 1) := by
 unfold dW
 rw [List.append_assoc, List.replicate_succ']
theorem VN (b : By) : b ++ [6] = dW b 0 := by simp [dW]
theorem Ev {b : By} {x : UInt8} (h : (dW b (eF b))[(dW b (eF b)).length - 1]? = some x) : (dW b (eF b)).set ((dW b (eF b)).length - 1) (x ||| 128) = FJ b := by
 have e : (dW b (eF b)).getD ((dW b (eF b)).length - 1) 0 = x := by rw [List.getD_eq_getElem?_getD, h]; rfl
 rw [← e]
 unfold FJ dW eF
 simp only [List.length_append, List.length_singleton]
theorem OD (b : By) : (FJ b).length = b.length + 1 + eF b := by
 unfold FJ eF
 simp only [List.length_set, List.length_append, List.length_singleton, List.length_replicate]
theorem AZ (S : List (BitVec 64)) (p : By) : ∀ n, (sG S p n).length = S.length := by
 intro n
 induction n with
 | zero => rfl
 | succ n ih => unfold sG at *; rw [List.range_succ, List.foldl_append]; simpa using ih
theorem ZS (S : List (BitVec 64)) {p : By} {n : Nat} {x : UInt8} (h : p[n]? = some x) : (sG S p n).set (n / 8) (at0 (sG S p n) (n / 8) ^^^ (BitVec.ofNat 64 x.toNat <<< (n % 8 * 8))) = sG S p (n + 1) := by
 have e : p.getD n 0 = x := by rw [List.getD_eq_getElem?_getD, h]; rfl
 rw [← e]
 unfold sG
 rw [List.range_succ, List.foldl_append]
 rfl
theorem VO (S : List (BitVec 64)) (r : Nat) : (GS S r).length = 25 := by
 unfold GS
 simp [Cc, qZ]
theorem DO (S : List (BitVec 64)) (n : Nat) : GS (mU S n) n = mU S (n + 1) := by
 unfold mU
 rw [List.range_succ, List.foldl_append]
 rfl
theorem HV {S : List (BitVec 64)} (h : S.length = 25) : ∀ n, (mU S n).length = 25
  | 0 => h
  | n + 1 => by rw [← DO]; exact VO _ _
theorem OE {Z : List (BitVec 64)} {p : By} (h : 136 ≤ p.length) : nD Z p (p.length / 136) = nD (mU (sG Z p 136) 24) (p.drop 136) ((p.drop 136).length / 136) := by
 rw [List.length_drop, show p.length / 136 = (p.length - 136) / 136 + 1 from by omega]
 rfl
def ZT (Z : List (BitVec 64)) (i : Nat) : UInt8 := UInt8.ofNat ((at0 Z (i / 8) >>> (i % 8 * 8)).toNat % 256)
def xJ (Z : List (BitVec 64)) (k : Nat) : By := (List.range 32).map fun i => if i < k then ZT Z i else 0
theorem OF (Z : List (BitVec 64)) (k : Nat) : (xJ Z k).length = 32 := by simp [xJ]
theorem VP (Z : List (BitVec 64)) : xJ Z 0 = List.replicate 32 0 := by unfold xJ; rfl
theorem ZU (Z : List (BitVec 64)) : xJ Z 32 = MI Z := by
 unfold xJ MI
 exact List.map_congr_left fun i hi => by rw [if_pos (List.mem_range.1 hi)]; rfl
theorem VQ (Z : List (BitVec 64)) {k : Nat} (h : k < 32) : (xJ Z k).set k (ZT Z k) = xJ Z (k + 1) := by
 apply List.ext_getElem (by simp [xJ])
 intro i h1 h2
 simp only [xJ, List.getElem_set, List.getElem_map, List.getElem_range]
 by_cases e : k = i
 ·subst e; simp
 ·rw [if_neg e]
  by_cases e2 : i < k
  ·rw [if_pos e2, if_pos (by omega)]
  ·rw [if_neg e2, if_neg (by omega)]
theorem VR {l : By} {j : Nat} {x : UInt8} (h : j < l.length) : cB (l.map bv) j [bv x] = (l.set j x).map bv := by
 unfold cB
 rw [List.map_set, List.set_eq_take_append_cons_drop, if_pos (by simpa using h)]
 simp
theorem ZV (w : World) : (zeroValue 217).run Tryz.prog w = .ok (.agg ((List.replicate 25 (0 : BitVec 64)).map aR).toArray) w := by kernel_rfl
theorem Hp {P : Program} {w0 w : World} {F0 F : Fz} {rb : Nat} {T : TypeId} {L0 : List Blk} {M0 : List RowP} {Z : List (BitVec 64)} {ops : Array Oper} {Q : Exit → Act → World → Prop} {a : Act} {rest : List Oper} {o : Oper} {k : FuncId} {vs : Array Value} (hw : Region.wanted o (yielded ops a.tmps) = true)
    (hr : (execOp a.eval o).run P w = .ok (.enter k vs) w) (hc : Calls P k vs w fun e w' => e = .returned (.tuple #[]) ∧ St w0 F0 w' F (⟨rb, Z.map aR, T⟩ :: L0) M0)
    (h : ∀ w', St w0 F0 w' F (⟨rb, Z.map aR, T⟩ :: L0) M0 → WL P ops Q rest (a.put o.dst (.tuple #[])) w') : WL P ops Q (o :: rest) a w :=
  doC hw hr hc fun e w' ⟨he, hS⟩ => ⟨_, he, h w' hS⟩
end Go.Proofs.YtilgpdpooildcaaGreatDoor
