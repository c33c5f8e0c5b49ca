/- Rules, plain laws and walks: X6 H1 TP1 TP2 TP3 TP4 T0 D1 DG1 -/
import Derived.Test.YtilgpdpooildcaaGreatDoorFA6
import Derived.Test.YtilgpdpooildcaaGreatDoorFA2
import Derived.Test.YtilgpdpooildcaaGreatDoorFA3
import Derived.Test.YtilgpdpooildcaaGreatDoorFA5
import Derived.Test.YtilgpdpooildcaaGreatDoorFA1
import Derived.Test.YtilgpdpooildcaaGreatDoorCards
import Derived.Test.YtilgpdpooildcaaGreatDoorTie
import Derived.WalkKit
import Derived.ProofKit
import Derived.OpenShut
import Derived.Deep.DeepHandedRow
import Derived.Lib.LaidTab
import Derived.Lib.SmallJoins
import Derived.Deep.QuietTactic
import Derived.BigQuiet
import Derived.StillTailTactics
import Derived.Deep.MidRow
namespace Go.Proofs.YtilgpdpooildcaaGreatDoor
set_option maxHeartbeats 8000000
open Go.RowKit
set_option maxRecDepth 100000
set_option linter.unusedVariables false
set_option linter.unusedSimpArgs false
def Cj (o : Option By) (b : Bool) (e : Int) (F : Fz) (u : Value) : Prop := ∃ x, u = .tuple #[x, .bool b, .int .i64 e] ∧ FndV F x o
def FdV (F : Fz) (u : Value) (b : Bool) (l : By) : Prop := ∃ a c, u = .agg #[.bool b, .slice a l.length c] ∧ Bs F (.slice a l.length c) l
theorem FdV.dropF {w : World} {F : Fz} {n : Nat} {cs : List Value} {T : TypeId} (hs : Sat w F) (hb : w.heap[n]? = some (.cells cs.toArray T (0, 0))) (hc : ∀ u ∈ cs, ∀ x, u ≠ bv x) {v : Value} {b : Bool} {l : By} (h : FdV F v b l) : FdV (Proofs.YtilgpdpooildcaaGreatDoor.dropF F n) v b l := by
 obtain ⟨a, c, rfl, h1⟩ := h
 exact ⟨a, c, rfl, h1.dropF hs hb hc⟩
theorem FdV.fnd {F : Fz} {u : Value} {p : Wr} (h : FdV F u (!p.gone) p.value) (hp : WrOk p) : FndV F u (if p.gone then none else some p.value) := by
 obtain ⟨a, c, rfl, h1⟩ := h
 cases hg : p.gone with
 | true =>
  have := hp.gone hg
  rw [this] at h1
  refine ⟨a, c, by rw [this]; rfl, h1⟩
 | false => exact ⟨a, c, rfl, h1⟩
theorem VN {α : Type} {l : List α} {g : α → Bool} {k : Nat} {p : α} (hp : l[k]? = some p) (h : (l.take k).any g = false) (hg : g p = true) : l.find? g = some p := by
 obtain ⟨hk, rfl⟩ := List.getElem?_eq_some_iff.1 hp
 rw [List.find?_eq_some_iff_getElem]
 exact ⟨hg, k, hk, rfl, fun j hj => by rw [sP.1 h j _ hj (List.getElem?_eq_getElem (by omega))]; rfl⟩
theorem Ar {α : Type} {l : List α} {g : α → Bool} (h : l.any g = false) : l.find? g = none := by
 rw [List.find?_eq_none]
 intro x hx
 have := List.any_eq_false.1 h x hx
 simpa using this
theorem RV (F : Fz) (w : World) (u v y z : Value) (l : aP) (t : Tx) (n k : By) (hs : Sat w F) (hl : Tns F u l) (hv : TxV F v t) (hn : Bs F y n) (hk : Bs F z k) (hf : ForestOk 60 l) (ht : TxOk t) (hnn : 1 ≤ n.length ∧ n.length ≤ 8) (hkk : 1 ≤ k.length ∧ k.length ≤ 16) :
    Calls Tryz.prog 89 #[u, v, y, z] w (dO w F (Cj (cJ l t n k).1 (cJ l t n k).2 0)) := by
 obtain ⟨a, c, rfl, hc1, hc2⟩ := Sl.shape hl
 unfold maxLen at hc2
 obtain ⟨x0, y0, x1, y1, rfl, h0, h1⟩ := hv
 obtain ⟨_, _, e0, q0, q1⟩ := Sl.shape h0
 obtain ⟨_, _, e1, q2, q3⟩ := Sl.shape h1
 injection e0 with _ _ e0
 injection e1 with _ _ e1
 subst e0 e1
 unfold maxLen at q1 q3
 obtain ⟨a2, c2, rfl, _⟩ := hn.shape
 obtain ⟨a3, c3, rfl, _⟩ := hk.shape
 have hb0 := JV.2 ⟨hf, ht⟩
 have hbw := fun r hr => (ht.writes r hr).small
 have S := St.start hs
 go_enter Tryz.func89, Tryz.ntmps89
 refine sk fun K1 hK1 => ?_
 refine aZ S (v := fun n => .pointer (aA n 0)) rfl (bW (v := (.agg #[(.int .i64 t.start), (.slice x0 t.reads.length y0), (.slice x1 t.writes.length y1)])) rfl) (fun n2 w3 S4 => ?_)
 refine sA S4 (oU _) fun n5 w6 S7 => ?_
 refine aC ?_
 refine wn hK1 ?_
 refine aF fun K8 hK8 => ?_
 refine sk fun K9 hK9 => ?_
 refine dx ?_
 refine dR S7 1 Tryz.underlying141 (aU) ?_
 refine aL (v := (.int .i64 (oC l t))) S7 rfl (fn2 (PK _ _)) (EU _ _ _ _ l t (S7).sat hl ⟨_, _, _, _, rfl, h0, h1⟩ hbw) (fun h4 d7 => ?_)
 refine dy ?_
 simp only [pq]
 refine wn hK9 ?_
 refine sk fun h5 b3 => ?_
 refine dx ?_
 refine dr bF (cC (m := (oC l t)) (n := (0 : Int)) (b := false) rfl rfl (bne_eq_false_iff_eq.2 (hb0))) ?_
 refine wn b3 ?_
 refine aG ?_
 refine aI ?_
 refine hK8 _ _ ?_
 refine sk fun h6 b4 => ?_
 refine aC ?_
 refine aY d7 rfl (fn3 (Cx _ _)) (RQ _ _ _ _ _ l n k (d7).sat hl hn hk hf hnn hkk) ?_
 intro h7 h8 d8 e8 a4 e9
 obtain ⟨_, rfl, a8, a9, rfl, b5⟩ := e9
 have b5 : Bs _ (.slice a8 ((jV l n k).getD []).length a9) ((jV l n k).getD []) := b5
 refine aC ?_
 refine sA e8 (oU _) fun d9 h9 f0 => ?_
 refine sW 0 f0 (hJ) fun i0 f1 => ?_
 refine dy ?_
 simp only [pq]
 refine wn b4 ?_
 refine aF fun i1 b6 => ?_
 refine sk fun i2 b7 => ?_
 refine dx ?_
 refine dr bF (cC (b := false) rfl rfl (by decide)) ?_
 refine wn b7 ?_
 refine aG ?_
 refine aI ?_
 refine b6 _ _ ?_
 refine aF fun i3 b9 => ?_
 refine sk fun i4 c0 => ?_
 refine aC ?_
 refine wn c0 ?_
 refine aM ?_
 refine aW (fun mm aa f2 => ∃ (i : Nat) (b0 : Fz) (a7 : Nat → Value), mm = t.writes.length - i ∧ a7 = dY aa ∧ aa = ⟨([(.slice a l.length c), (.agg #[(.int .i64 t.start), (.slice x0 t.reads.length y0), (.slice x1 t.writes.length y1)]), (.slice a2 n.length c2), (.slice a3 k.length c3), undef, (pP n2 0), undef, undef, (pP n5 0), (a7 9), (a7 10), (.int .i64 (oC l t)), (pP d9 0), (iI 0), undef, (a7 15), (.slice a l.length c), (.agg #[(.int .i64 t.start), (.slice x0 t.reads.length y0), (.slice x1 t.writes.length y1)]), (.int .i64 (oC l t)), (.int .i64 (oC l t)), bF, undef, undef, (.tuple #[(.agg #[(.bool (jV l n k).isSome), (.slice a8 ((jV l n k).getD []).length a9)]), (iI 0)]), (.slice a l.length c), (.slice a2 n.length c2), (.slice a3 k.length c3), (.tuple #[(.agg #[(.bool (jV l n k).isSome), (.slice a8 ((jV l n k).getD []).length a9)]), (iI 0)]), (.agg #[(.bool (jV l n k).isSome), (.slice a8 ((jV l n k).getD []).length a9)]), (iI 0), (iI 0), bF, undef, undef, (pP n2 2), (.slice x1 t.writes.length y1), (nI t.writes.length), (nI i)] ++ (usF a7 38 16 [undef])).toArray, []⟩ ∧ St w F f2 b0 [⟨d9, [(.bool (jV l n k).isSome), (.slice a8 ((jV l n k).getD []).length a9)], 72⟩, ⟨n5, [bF, Zn], 72⟩, ⟨n2, [(.int .i64 t.start), (.slice x0 t.reads.length y0), (.slice x1 t.writes.length y1)], 141⟩] [] ∧ Le d8 b0 ∧ (i ≤ t.writes.length) ∧ ((t.writes.take i).any (fun w : Wr => cT w (⟨n, k, false, ([] : By)⟩ : Wr)) = false)) _ ⟨0, d8, _, rfl, rfl, rfl, f1, Le.refl _, (by omega), rfl⟩ ?_
 rintro i5 i6 i7 ⟨i, b0, a7, rfl, -, hfr, a5, a0, hi, hno⟩ i8 c1
 simp only [uzF, Nat.reduceAdd] at hfr; subst hfr
 refine sk fun i9 b1 => ?_
 by_cases c4 : i < t.writes.length
 refine fA ?_
 refine wn b1 ?_
 refine aF fun j0 c5 => ?_
 refine aK ?_
 refine aI ?_
 refine c5 _ _ ?_
 refine aF fun j1 c6 => ?_
 refine aM ?_
 refine aF fun j2 c7 => ?_
 obtain ⟨p, hp⟩ : ∃ p, t.writes[i]? = some p := ⟨t.writes[i], List.getElem?_eq_getElem c4⟩
 have hpo := ht.writes p (List.mem_of_getElem? hp)
 have hps := hpo.small
 obtain ⟨f3, f4, c8, f5, f6, f7, f8, c9, d0, f9, g0, g1, g2, g3, g4, e2⟩ := Wrs.get (h1.mono (a4.trans a0)) hp
 refine aB ?_
 refine dr (pP f3 (f4 + i * 4)) (bK (i := i) (sz := 4) Tryz.underlying40 (eT _) rfl c8 rfl (by omega) rfl) ?_
 refine dr _ (aE rfl (cU Tryz.underlying39 rfl (bI) (eL (St.fz a5 f9) (St.fz a5 g0) (St.fz a5 g1) (St.fz a5 g2)))) ?_
 simp only [pq]
 refine sA a5 (kC _) fun j3 j4 g5 => ?_
 refine sW 0 g5 (bI) fun j5 d1 => ?_
 refine wlK c7 ?_
 refine sk fun j6 d2 => ?_
 refine dR d1 0 Tryz.underlying39 (bI) ?_
 refine aC ?_
 refine dr (.agg #[(.slice a2 n.length c2), (.slice a3 k.length c3), bF, Zn]) (aJ (eZ rfl rfl) (by kernel_rfl)) ?_
 refine aL (v := (.bool (cT p (⟨n, k, false, ([] : By)⟩ : Wr)))) d1 rfl (fn2 (GL _ _)) (oA _ _ _ _ p (⟨n, k, false, ([] : By)⟩ : Wr) (d1).sat ⟨_, _, _, _, _, _, rfl, g3, g4, e2⟩ ⟨_, _, _, _, _, _, rfl, (hn.mono (a4.trans a0)), (hk.mono (a4.trans a0)), (Bs.nil _)⟩) (fun j7 a1 => ?_)
 refine wn d2 ?_
 refine wp_cond_split rfl (fun a6 => ?_) (fun a6 => ?_)
 refine aF fun j8 d3 => ?_
 refine aQ b0 6 [(5, .made (fun F' u => Bs F' u p.value))] (by kernel_rfl) (by kernel_rfl) ?_
 simp only [cV]
 refine gf (wC _ _) ?_
 refine gl iE a1 0 ?_
 simp only [pq]
 refine gv (.bool (!p.gone)) (fun _ _ => xO rfl rfl) ?_
 refine gf (zN _ _) ?_
 refine gl bD a1 0 ?_
 simp only [pq]
 refine dJ rfl rfl (fun j9 e3 hF => bX (cP (vs := #[(.slice c9 p.value.length d0)]) (kX rfl) rfl (gV _ _)) (dI a1.sat e3 (dC _ _ _ p.value ((St.tells a1 e3)).sat e2 (by omega)))) (fun k0 => ?_)
 refine bN ?_
 intro k1 g6 b2
 obtain ⟨g7, e4, g8⟩ := b2.get 5 rfl rfl
 have g9 := St.gives a1 e4
 have h2 : Le _ _ := e4.le a1.sat
 have e5 := g8
 generalize g7 = k2 at *
 obtain ⟨d4, d5, rfl, _⟩ := e5.shape
 clear b2
 simp only [cW]
 refine dr (.agg #[(.bool (!p.gone)), (.slice d4 p.value.length d5)]) (aJ (eZ rfl rfl) (by kernel_rfl)) ?_
 simp only [pq]
 refine sW 2 g9 (hJ) fun k3 e6 => ?_
 refine aC ?_
 refine wlK d3 ?_
 refine aO ?_
 try simp only [xt]
 refine bR (PB rfl ⟨_, rfl, lR e6 2 Tryz.underlying72 (hJ)⟩ (gD rfl) (gD rfl)) ?_
 have ho : Cv t.writes n k = some p := VN hp hno a6
 have hx : cJ l t n k = (if p.gone then none else some p.value, true) := by unfold cJ; rw [ho]
 rw [hx]
 exact ⟨_, _, rfl, e6.gr, _, rfl, FdV.fnd ⟨_, _, rfl, e5⟩ hpo⟩
 refine aI ?_
 refine c6 _ _ ?_
 refine aB ?_
 refine cD (i + 1) ?_
 refine dx ?_
 refine aH ?_
 have a1 := St.drop a1 (.cons _ (List.Sublist.refl _))
 exact c1 _ _ _ (by omega) ⟨(i + 1), b0, _, rfl, rfl, rfl, a1, a0, (by omega), (wR hp hno (by simpa using a6))⟩
 refine eM ?_
 simp only [pq]
 refine wn b1 ?_
 refine aF fun k4 h3 => ?_
 refine aG ?_
 refine cS ?_
 refine b9 _ _ ?_
 refine sk fun k5 d6 => ?_
 refine dR a5 0 Tryz.underlying72 (hJ) ?_
 refine sW 1 a5 (hJ) fun k6 e7 => ?_
 refine aC ?_
 refine wn d6 ?_
 refine aO ?_
 try simp only [xt]
 refine bR (PB rfl ⟨_, rfl, lR e7 1 Tryz.underlying72 (hJ)⟩ (gD rfl) (gD rfl)) ?_
 have ho : Cv t.writes n k = none := Ar (HQ (by omega) hno)
 have hx : cJ l t n k = (jV l n k, false) := by unfold cJ; rw [ho]
 rw [hx]
 exact ⟨_, _, rfl, e7.gr, _, rfl, _, _, rfl, (b5.mono a0)⟩
theorem zV {ws : List Wr} {i : Nat} {p : Wr} (hp : ws[i]? = some p) (n a b : By) (m : List Pr) : iD n a b m (ws.drop i) = match pM n a b m p with | some x => iD n a b x (ws.drop (i + 1)) | none => none := by
 obtain ⟨hi, rfl⟩ := List.getElem?_eq_some_iff.1 hp
 rw [List.drop_eq_getElem_cons hi]
 rfl
theorem xU {ws : List Wr} {i : Nat} {p : Wr} {n a b : By} {m : List Pr} {o : Option (List Pr)} (hp : ws[i]? = some p) (hr : inR n a b p = false) (h : iD n a b m (ws.drop i) = o) : iD n a b m (ws.drop (i + 1)) = o := by
 rw [zV hp] at h
 unfold pM at h
 rw [if_neg (by simp [hr])] at h
 exact h
theorem VO {ws : List Wr} {i : Nat} {p : Wr} {n a b : By} {m : List Pr} {o : Option (List Pr)} (hp : ws[i]? = some p) (hr : inR n a b p = true) (hg : p.gone = true) (h : iD n a b m (ws.drop i) = o) : iD n a b (gG m p.key) (ws.drop (i + 1)) = o := by
 rw [zV hp] at h
 unfold pM at h
 rw [if_pos hr, if_neg (by simp [hg]), nJ hg] at h
 exact h
theorem VP {ws : List Wr} {i : Nat} {p : Wr} {n a b : By} {m : List Pr} {o : Option (List Pr)} (hp : ws[i]? = some p) (hr : inR n a b p = true) (hg : p.gone = false) (hl : ¬ 60 < (eO m p.key p.value).length) (h : iD n a b m (ws.drop i) = o) : iD n a b (eO m p.key p.value) (ws.drop (i + 1)) = o := by
 rw [zV hp] at h
 unfold pM at h
 rw [if_pos hr, lB hg, if_neg (fun k => hl k.2)] at h
 exact h
theorem RW {ws : List Wr} {i : Nat} {p : Wr} {n a b : By} {m : List Pr} {o : Option (List Pr)} (hp : ws[i]? = some p) (hr : inR n a b p = true) (hg : p.gone = false) (hl : 60 < (eO m p.key p.value).length) (h : iD n a b m (ws.drop i) = o) : none = o := by
 rw [zV hp] at h
 unfold pM at h
 rw [if_pos hr, lB hg, if_pos ⟨hg, hl⟩] at h
 exact h
def Ez (o : Option (List Pr)) (F : Fz) (u : Value) : Prop := match o with
  | some R => PrsE R 0 F u
  | none => PrsE [] 11 F u
theorem NR (F : Fz) (w : World) (u v y z x : Value) (l : aP) (t : Tx) (n k j : By) (hs : Sat w F) (hl : Tns F u l) (hv : TxV F v t) (hn : Bs F y n) (hk : Bs F z k) (hj : Bs F x j) (hf : ForestOk 60 l) (ht : TxOk t) (hnn : 1 ≤ n.length ∧ n.length ≤ 8) (hkk : 1 ≤ k.length ∧ k.length ≤ 16) (hjj : 1 ≤ j.length ∧ j.length ≤ 16) :
    Calls Tryz.prog 91 #[u, v, y, z, x] w (dO w F (Ez (IP l t n k j))) := by
 obtain ⟨a, c, rfl, hc1, hc2⟩ := Sl.shape hl
 unfold maxLen at hc2
 obtain ⟨x0, y0, x1, y1, rfl, h0, h1⟩ := hv
 obtain ⟨_, _, e0, q0, q1⟩ := Sl.shape h0
 obtain ⟨_, _, e1, q2, q3⟩ := Sl.shape h1
 injection e0 with _ _ e0
 injection e1 with _ _ e1
 subst e0 e1
 unfold maxLen at q1 q3
 obtain ⟨a2, c2, rfl, _⟩ := hn.shape
 obtain ⟨a3, c3, rfl, _⟩ := hk.shape
 obtain ⟨a4, c4, rfl, _⟩ := hj.shape
 have hb0 := JV.2 ⟨hf, ht⟩
 have hbw := fun r hr => (ht.writes r hr).small
 have hnw := ht.nw
 obtain ⟨o, ho⟩ : ∃ o, IP l t n k j = o := ⟨_, rfl⟩
 rw [ho]
 have hsc : iD n k j (gI (dD l n) k j) (t.writes.drop 0) = o := ho
 have S := St.start hs
 go_enter Tryz.func91, Tryz.ntmps91
 refine sk fun K1 hK1 => ?_
 refine aZ S (v := fun n => .pointer (aA n 0)) rfl (bW (v := (.agg #[(.int .i64 t.start), (.slice x0 t.reads.length y0), (.slice x1 t.writes.length y1)])) rfl) (fun n2 w3 S4 => ?_)
 iterate 2 refine dy ?_
 refine wn hK1 ?_
 refine aF fun K5 hK5 => ?_
 refine sk fun K6 hK6 => ?_
 refine dx ?_
 refine dR S4 0 Tryz.underlying141 (aU) ?_
 simp only [pq]
 refine aL (v := (.int .i64 (oC l t))) S4 rfl (fn2 (PK _ _)) (EU _ _ _ _ l t (S4).sat hl ⟨_, _, _, _, rfl, h0, h1⟩ hbw) (fun w7 S8 => ?_)
 refine dy ?_
 refine wn hK6 ?_
 refine sk fun K9 hK9 => ?_
 refine dx ?_
 refine dr bF (cC (m := (oC l t)) (n := (0 : Int)) (b := false) rfl rfl (bne_eq_false_iff_eq.2 (hb0))) ?_
 simp only [pq]
 refine wn hK9 ?_
 refine aG ?_
 refine aI ?_
 refine hK5 _ _ ?_
 refine sk fun k3 d9 => ?_
 refine aC ?_
 refine aY S8 rfl (fn4 (Ae _ _)) (JH _ _ _ _ _ _ l n k j (S8).sat hl hn hk hj hf hnn hkk hjj) ?_
 intro k4 k5 g3 h3 a1 h4
 obtain ⟨_, rfl, d6⟩ := h4
 obtain ⟨b9, b6, rfl, g4, h5⟩ := Sl.shape d6
 unfold maxLen at h5
 have g4 : (gI (dD l n) k j).length ≤ b6 := g4
 have d6 : Prs _ (.slice b9 (gI (dD l n) k j).length b6) (gI (dD l n) k j) := d6
 refine aC ?_
 refine wn d9 ?_
 refine aF fun k6 e2 => ?_
 refine sk fun k7 e3 => ?_
 refine dx ?_
 refine dr bF (cC (b := false) rfl rfl (by decide)) ?_
 simp only [pq]
 refine wn e3 ?_
 refine aG ?_
 refine aI ?_
 refine e2 _ _ ?_
 refine aF fun k8 e4 => ?_
 refine sk fun k9 e5 => ?_
 refine aC ?_
 refine wn e5 ?_
 refine aM ?_
 refine aW (fun mm aa h6 => ∃ (i : Nat) (m : List Pr) (v : Value) (b1 : Fz) (b0 : Nat → Value), mm = t.writes.length - i ∧ b0 = dY aa ∧ aa = ⟨([(.slice a l.length c), (.agg #[(.int .i64 t.start), (.slice x0 t.reads.length y0), (.slice x1 t.writes.length y1)]), (.slice a2 n.length c2), (.slice a3 k.length c3), (.slice a4 j.length c4), undef, (pP n2 0), undef, undef, undef, (b0 10), (b0 11), (.int .i64 (oC l t)), v, (b0 14), undef, (b0 16), (b0 17), (.slice a l.length c), (.agg #[(.int .i64 t.start), (.slice x0 t.reads.length y0), (.slice x1 t.writes.length y1)]), (.int .i64 (oC l t)), (.int .i64 (oC l t)), bF, undef, (.tuple #[(.slice b9 (gI (dD l n) k j).length b6), (iI 0)]), (.slice a l.length c), (.slice a2 n.length c2), (.slice a3 k.length c3), (.slice a4 j.length c4), (.tuple #[(.slice b9 (gI (dD l n) k j).length b6), (iI 0)]), (.slice b9 (gI (dD l n) k j).length b6), (iI 0), (iI 0), bF, undef, (pP n2 2), (.slice x1 t.writes.length y1), (nI t.writes.length), (nI i)] ++ (usF b0 39 46 [undef])).toArray, []⟩ ∧ St w F h6 b1 [⟨n2, [(.int .i64 t.start), (.slice x0 t.reads.length y0), (.slice x1 t.writes.length y1)], 141⟩] [] ∧ Le g3 b1 ∧ (i ≤ t.writes.length) ∧ (Prs b1 v m) ∧ (TreeOk 60 m) ∧ (iD n k j m (t.writes.drop i) = o)) _ ⟨0, (gI (dD l n) k j), (.slice b9 (gI (dD l n) k j).length b6), g3, _, rfl, rfl, rfl, h3, Le.refl _, (by omega), d6, ((nP hf n).range k j), hsc⟩ ?_
 rintro l0 l1 l2 ⟨i, m, v, b1, b0, rfl, -, hfr, b7, a0, hi, hvm, okm, hsm⟩ l3 a5
 simp only [uzF, Nat.reduceAdd] at hfr; subst hfr
 refine sk fun l4 c0 => ?_
 by_cases e6 : i < t.writes.length
 refine fA ?_
 refine wn c0 ?_
 refine aF fun l5 e7 => ?_
 refine aK ?_
 refine aI ?_
 refine e7 _ _ ?_
 refine aF fun l6 a6 => ?_
 refine aM ?_
 refine aF fun l7 e8 => ?_
 obtain ⟨p, hp⟩ : ∃ p, t.writes[i]? = some p := ⟨t.writes[i], List.getElem?_eq_getElem e6⟩
 have hpo := ht.writes p (List.mem_of_getElem? hp)
 have hps := hpo.small
 obtain ⟨h7, h8, e9, h9, i0, c1, c5, c6, c7, i1, i2, i3, i4, g5, c8, g6⟩ := Wrs.get (h1.mono (a1.trans a0)) hp
 refine aB ?_
 refine dr (pP h7 (h8 + i * 4)) (bK (i := i) (sz := 4) Tryz.underlying40 (eT _) rfl e9 rfl (by omega) rfl) ?_
 refine dr _ (aE rfl (cU Tryz.underlying39 rfl (bI) (eL (St.fz b7 i1) (St.fz b7 i2) (St.fz b7 i3) (St.fz b7 i4)))) ?_
 simp only [pq]
 refine sA b7 (kC _) fun l8 l9 i5 => ?_
 refine sW 0 i5 (bI) fun m0 d7 => ?_
 refine wlK e8 ?_
 refine aF fun m1 f0 => ?_
 refine aF fun m2 a8 => ?_
 by_cases e1 : p.name = n
 refine aB ?_
 refine aC ?_
 refine aL (v := bT) d7 rfl (fn2 (iY _ _)) (fC (cR _ _ _ _ p.name n (d7).sat g5 (hn.mono (a1.trans a0))) (beq_iff_eq.2 (e1))) (fun m3 g7 => ?_)
 refine aC ?_
 refine aL (v := (.int .i64 (eQ p.key k))) g7 rfl (fn2 (uP _ _)) (eS _ _ _ _ p.key k (g7).sat c8 (hk.mono (a1.trans a0))) (fun m4 c9 => ?_)
 simp only [pq]
 by_cases i6 : (eQ p.key k) < (0 : Int)
 refine fA ?_
 refine aC ?_
 refine wlK a8 ?_
 refine aK ?_
 refine cS ?_
 refine a6 _ _ ?_
 refine aB ?_
 refine cD (i + 1) ?_
 refine dx ?_
 refine aH ?_
 have c9 := St.drop c9 (.cons _ (List.Sublist.refl _))
 exact a5 _ _ _ (by omega) ⟨(i + 1), m, v, b1, _, rfl, rfl, rfl, c9, a0, (by omega), hvm, okm, (xU hp (by unfold inR; rw [beq_iff_eq.2 e1, tQ, tR]; first | rw [decide_eq_false (by omega)]; rfl | rw [decide_eq_true (by omega), decide_eq_false (by omega)]; rfl) hsm)⟩
 refine eM ?_
 refine aC ?_
 refine aL (v := (.int .i64 (eQ p.key j))) c9 rfl (fn2 (uP _ _)) (eS _ _ _ _ p.key j (c9).sat c8 (hj.mono (a1.trans a0))) (fun m5 a7 => ?_)
 simp only [pq]
 by_cases i7 : (0 : Int) < (eQ p.key j)
 refine pR ?_
 refine dp ?_
 refine wlK a8 ?_
 refine aK ?_
 refine cS ?_
 refine a6 _ _ ?_
 refine aB ?_
 refine cD (i + 1) ?_
 refine dx ?_
 simp only [pq]
 refine aH ?_
 have a7 := St.drop a7 (.cons _ (List.Sublist.refl _))
 exact a5 _ _ _ (by omega) ⟨(i + 1), m, v, b1, _, rfl, rfl, rfl, a7, a0, (by omega), hvm, okm, (xU hp (by unfold inR; rw [beq_iff_eq.2 e1, tQ, tR]; first | rw [decide_eq_false (by omega)]; rfl | rw [decide_eq_true (by omega), decide_eq_false (by omega)]; rfl) hsm)⟩
 refine lF ?_
 refine dp ?_
 refine wlK a8 ?_
 refine aG ?_
 refine aI ?_
 refine f0 _ _ ?_
 refine sk fun m6 f1 => ?_
 refine dy ?_
 simp only [pq]
 refine wn f1 ?_
 refine aF fun m7 b2 => ?_
 refine aF fun m8 b3 => ?_
 have hin : inR n k j p = true := by unfold inR; rw [beq_iff_eq.2 e1, tQ, tR, decide_eq_true (by omega), decide_eq_true (by omega)]; rfl
 cases hg : p.gone with
 | true =>
  rw [hg] at a7
  refine aB ?_
  refine aC ?_
  refine wlK b3 ?_
  refine aK ?_
  refine aB ?_
  refine aC ?_
  refine aY a7 rfl (fn2 (BG _ _)) (uT _ _ _ _ m p.key (a7).sat hvm c8 okm ⟨hpo.key1, hpo.key2⟩) ?_
  intro m9 n0 i8 f2 f3 i9
  obtain ⟨_, rfl, d8⟩ := i9
  obtain ⟨g8, f4, rfl, g9, j0⟩ := Sl.shape d8
  unfold maxLen at j0
  have g9 : (gG m p.key).length ≤ f4 := g9
  have d8 : Prs _ (.slice g8 (gG m p.key).length f4) (gG m p.key) := d8
  refine aC ?_
  refine wlK b2 ?_
  refine aF fun n1 f5 => ?_
  refine sk fun n3 f6 => ?_
  refine dx ?_
  refine dr bF (cC (b := false) rfl rfl (by decide)) ?_
  simp only [pq]
  refine wn f6 ?_
  refine aG ?_
  refine aI ?_
  refine f5 _ _ ?_
  refine aB ?_
  refine aC ?_
  refine wlK a6 ?_
  refine aB ?_
  refine cD (i + 1) ?_
  refine dx ?_
  simp only [pq]
  refine aH ?_
  have f2 := St.drop f2 (.cons _ (List.Sublist.refl _))
  exact a5 _ _ _ (by omega) ⟨(i + 1), (gG m p.key), (.slice g8 (gG m p.key).length f4), i8, _, rfl, rfl, rfl, f2, (a0.trans f3), (by omega), d8, okm.del, (VO hp hin hg hsm)⟩
 | false =>
  rw [hg] at a7
  by_cases hfit : 60 < (eO m p.key p.value).length
  refine aB ?_
  refine aC ?_
  refine wlK b3 ?_
  refine aG ?_
  refine aB ?_
  refine aC ?_
  refine dr (.agg #[(.slice c1 p.key.length c5), (.slice c6 p.value.length c7)]) (aJ (eZ rfl rfl) (by kernel_rfl)) ?_
  simp only [pq]
  refine aY a7 rfl (fn2 (sG _ _)) (rA _ _ _ _ m (p.key, p.value) (a7).sat hvm ⟨_, _, _, _, rfl, c8, g6⟩ okm hps.2.1 hps.2.2 (sH.2 ⟨hpo.key1, hpo.key2, hpo.value⟩) hfit) ?_
  intro n4 n5 n6 j1 j2 j3
  obtain ⟨_, rfl, j4⟩ := j3
  obtain ⟨n7, n8, rfl, n9, j5⟩ := Sl.shape j4
  unfold maxLen at j5
  refine aC ?_
  refine wlK b2 ?_
  refine aF fun o0 j6 => ?_
  refine sk fun o1 f7 => ?_
  refine dx ?_
  refine dr bT (cC (b := true) rfl rfl (by decide)) ?_
  simp only [pq]
  refine wn f7 ?_
  refine aK ?_
  refine sk fun o2 f8 => ?_
  refine aC ?_
  refine wn f8 ?_
  refine aO ?_
  try simp only [xt]
  refine bR (cI rfl (gD rfl) (gD rfl)) ?_
  rw [← RW hp hin hg hfit hsm]
  exact ⟨_, _, rfl, j1.gr, _, rfl, Sl.nil _ _ _⟩
  refine aB ?_
  refine aC ?_
  refine wlK b3 ?_
  refine aG ?_
  refine aB ?_
  refine aC ?_
  refine dr (.agg #[(.slice c1 p.key.length c5), (.slice c6 p.value.length c7)]) (aJ (eZ rfl rfl) (by kernel_rfl)) ?_
  simp only [pq]
  refine aY a7 rfl (fn2 (sG _ _)) (sJ _ _ _ _ m (p.key, p.value) (a7).sat hvm ⟨_, _, _, _, rfl, c8, g6⟩ okm hps.2.1 hps.2.2 (sH.2 ⟨hpo.key1, hpo.key2, hpo.value⟩) hfit) ?_
  intro j7 o3 f9 g0 d0 g1
  obtain ⟨_, rfl, a9⟩ := g1
  obtain ⟨d1, b4, rfl, d2, g2⟩ := Sl.shape a9
  unfold maxLen at g2
  have d2 : (eO m p.key p.value).length ≤ b4 := d2
  have a9 : Prs _ (.slice d1 (eO m p.key p.value).length b4) (eO m p.key p.value) := a9
  refine aC ?_
  refine wlK b2 ?_
  refine aF fun j8 d3 => ?_
  refine sk fun j9 d4 => ?_
  refine dx ?_
  refine dr bF (cC (b := false) rfl rfl (by decide)) ?_
  simp only [pq]
  refine wn d4 ?_
  refine aG ?_
  refine aI ?_
  refine d3 _ _ ?_
  refine aB ?_
  refine aC ?_
  refine wlK a6 ?_
  refine aB ?_
  refine cD (i + 1) ?_
  refine dx ?_
  simp only [pq]
  refine aH ?_
  have g0 := St.drop g0 (.cons _ (List.Sublist.refl _))
  exact a5 _ _ _ (by omega) ⟨(i + 1), (eO m p.key p.value), (.slice d1 (eO m p.key p.value).length b4), f9, _, rfl, rfl, rfl, g0, (a0.trans d0), (by omega), a9, (okm.put ⟨hpo.key1, hpo.key2, hpo.value⟩ (by omega)), (VP hp hin hg hfit hsm)⟩
 refine aB ?_
 refine aC ?_
 refine aL (v := bF) d7 rfl (fn2 (iY _ _)) (fC (cR _ _ _ _ p.name n (d7).sat g5 (hn.mono (a1.trans a0))) (beq_eq_false_iff_ne.2 (e1))) (fun k0 b5 => ?_)
 refine aC ?_
 refine wlK a8 ?_
 refine aK ?_
 refine cS ?_
 refine a6 _ _ ?_
 refine aB ?_
 refine cD (i + 1) ?_
 refine dx ?_
 refine aH ?_
 have b5 := St.drop b5 (.cons _ (List.Sublist.refl _))
 exact a5 _ _ _ (by omega) ⟨(i + 1), m, v, b1, _, rfl, rfl, rfl, b5, a0, (by omega), hvm, okm, (xU hp (by unfold inR; rw [beq_eq_false_iff_ne.2 e1]; rfl) hsm)⟩
 refine eM ?_
 simp only [pq]
 refine wn c0 ?_
 refine aF fun k1 h2 => ?_
 refine aG ?_
 refine cS ?_
 refine e4 _ _ ?_
 refine sk fun k2 d5 => ?_
 refine aC ?_
 refine wn d5 ?_
 refine aO ?_
 try simp only [xt]
 refine bR (cI rfl (gD rfl) (gD rfl)) ?_
 rw [← show some m = o from by rw [List.drop_of_length_le (by omega)] at hsm; exact hsm]
 exact ⟨_, _, rfl, b7.gr, _, rfl, hvm⟩
theorem VQ {r : Wr} (h : WrOk r) : ∃ g, fZ [] [r] = (0, g) := by
 rw [NK h]
 cases hw : eH [] r with
 | some g => exact ⟨g, rfl⟩
 | none =>
  have := (oM (m := 0) (ForestOk.nil 0) h (by omega) hw).1
  simp at this
theorem Sl.cap {α : Type} {k : Nat} {R : Fz → List Value → α → Prop} {F : Fz} {a : Option Addr} {n c c' : Nat} {l : List α} (h : Sl k R F (.slice a n c) l) (h1 : n ≤ c') (h2 : c' ≤ c) : Sl k R F (.slice a n c') l := by
 have hn := Sl.len h
 obtain ⟨xs, ⟨a', c0, e1, q1, q2, q3, q4⟩, hr, hk⟩ := h
 injection e1 with e1 e2 e3
 subst e1 e3
 exact ⟨xs, ⟨a, c', by rw [hn], by omega, by omega, fun h => by have := q3 h; omega, q4⟩, hr, hk⟩
theorem Sl.cut2 {α : Type} {k : Nat} {R : Fz → List Value → α → Prop} {F : Fz} {a : Option Addr} {n c i h : Nat} {l : List α} (hk : 0 < k) (hs : Sl k R F (.slice a n c) l) (h1 : i ≤ h) (h2 : h ≤ n) : Sl k R F (.slice (if c = i then a else a.map (·.add (i * k))) (h - i) (c - i)) ((l.take h).drop i) := Sl.dropAny (m := i) hk (Sl.takeN (m := h) hs h2) h1
theorem xV (F : Fz) (w : World) (v : Value) (m : Cm) (hs : Sat w F) (hv : CmV F v m) (hm : CmOk m) :
    Calls Tryz.prog 120 #[v] w (cY w (.int .i64 0)) := by
 obtain ⟨x1, y1, rfl, h1⟩ := hv
 obtain ⟨_, _, e1, q2, q3⟩ := Sl.shape h1
 injection e1 with _ _ e1
 subst e1
 unfold maxLen at q3
 have hmt := hm.turn
 have hms := hm.some
 have S := St.start hs
 go_enter Tryz.func120, Tryz.ntmps120
 refine sk fun K1 hK1 => ?_
 refine aZ S (v := fun n => .pointer (aA n 0)) rfl (bW (v := (.agg #[(nI m.turn), (.slice x1 m.writes.length y1)])) rfl) (fun n2 w3 S4 => ?_)
 refine dy ?_
 refine wn hK1 ?_
 refine aF fun K5 hK5 => ?_
 refine sk fun K6 hK6 => ?_
 refine aC ?_
 refine eM ?_
 refine aC ?_
 refine lF ?_
 refine dp ?_
 refine wn hK6 ?_
 refine aG ?_
 refine aI ?_
 refine hK5 _ _ ?_
 refine aF fun K7 hK7 => ?_
 refine sk fun K8 hK8 => ?_
 refine aC ?_
 refine eM ?_
 refine wn hK8 ?_
 refine aG ?_
 refine aI ?_
 refine hK7 _ _ ?_
 refine aF fun K9 hK9 => ?_
 refine sk fun f4 b2 => ?_
 refine aC ?_
 refine wn b2 ?_
 refine aM ?_
 refine aW (fun mm aa d4 => ∃ (k : Nat) (b0 : Fz) (b1 : Nat → Value), mm = m.writes.length - k ∧ b1 = dY aa ∧ aa = ⟨([(.agg #[(nI m.turn), (.slice x1 m.writes.length y1)]), (pP n2 0)] ++ (usF b1 2 5 ([(pP n2 0), (nI m.turn), bF, bF, (pP n2 0), (nI m.turn), bF, bF, (pP n2 1), (.slice x1 m.writes.length y1), (nI m.writes.length), bF, (pP n2 1), (.slice x1 m.writes.length y1), (nI m.writes.length), (nI k)] ++ (usF b1 23 16 [])))).toArray, []⟩ ∧ St w F d4 b0 [⟨n2, [(nI m.turn), (.slice x1 m.writes.length y1)], 168⟩] [] ∧ Le F b0 ∧ (k ≤ m.writes.length)) _ ⟨0, F, _, rfl, rfl, rfl, S4, Le.refl _, (by omega)⟩ ?_
 rintro f5 f6 f7 ⟨k, b0, b1, rfl, -, hfr, a7, a8, hk⟩ f8 b3
 simp only [uzF, Nat.reduceAdd] at hfr; subst hfr
 refine sk fun f9 a9 => ?_
 by_cases b4 : k < m.writes.length
 refine fA ?_
 refine wn a9 ?_
 refine aF fun g0 b5 => ?_
 refine aK ?_
 refine aI ?_
 refine b5 _ _ ?_
 refine aF fun g1 b6 => ?_
 refine aM ?_
 refine aF fun g2 b7 => ?_
 obtain ⟨p, hp⟩ : ∃ p, m.writes[k]? = some p := ⟨m.writes[k], List.getElem?_eq_getElem b4⟩
 have hpo := hm.ok p (List.mem_of_getElem? hp)
 obtain ⟨gx, hae⟩ := VQ hpo
 obtain ⟨d5, d6, b9, a1, a2, a3, a4, a5, a6, d7, d8, d9, e0, e2, e3, e4⟩ := Wrs.get (h1.mono a8) hp
 refine aB ?_
 refine dx ?_
 refine dr (pP d5 (d6 + k * 4)) (bK (i := k) (sz := 4) Tryz.underlying40 (eT _) rfl b9 rfl (by omega) rfl) ?_
 refine dr _ (aE rfl (cU Tryz.underlying39 rfl (bI) (eL (St.fz a7 d7) (St.fz a7 d8) (St.fz a7 d9) (St.fz a7 e0)))) ?_
 simp only [pq]
 refine sA a7 (kC _) fun g3 g4 e5 => ?_
 refine dy ?_
 refine sW 0 e5 (bI) fun g5 c9 => ?_
 simp only [pq]
 refine wlK b7 ?_
 refine aF fun g6 c0 => ?_
 refine sk fun g7 c1 => ?_
 refine dx ?_
 refine gL ?_
 refine wn c1 ?_
 refine aG ?_
 refine aI ?_
 refine c0 _ _ ?_
 refine sk fun g8 c2 => ?_
 refine dR c9 0 Tryz.underlying39 (bI) ?_
 simp only [pq]
 refine aZ c9 (v := fun n => .slice (aA n 0) 1 1) rfl (bS (ps := #[(0, (.agg #[(.slice a1 p.name.length a2), (.slice a3 p.key.length a4), (.bool p.gone), (.slice a5 p.value.length a6)]))]) (cells := #[(.slice a1 p.name.length a2), (.slice a3 p.key.length a4), (.bool p.gone), (.slice a5 p.value.length a6)]) (E := 39) (cG rfl) (fun w => by kernel_rfl)) (fun d0 e6 e7 => ?_)
 simp only [pq]
 obtain ⟨d1, a0, c3⟩ := St.freezeBlk e7 (i := 0) rfl
 have e8 : Wrs _ (.slice (some ⟨d0, 0, none⟩) 1 1) [p] := fS (R := WrC) (l := [p]) (el := [[(.slice a1 p.name.length a2), (.slice a3 p.key.length a4), (.bool p.gone), (.slice a5 p.value.length a6)]]) c3 rfl ⟨⟨_, _, _, _, rfl, (e2.mono a0), (e3.mono a0), rfl, (e4.mono a0)⟩, trivial⟩ (by simp) (by unfold maxLen; simp)
 generalize addF b0 e6 d0 = g9 at *
 refine aY d1 rfl (fn2 (xP _ _)) (wN (d1).sat (Sl.nil _ _ _) e8 (ForestOk.nil 60) (by simpa using hpo) hae) ?_
 intro h0 h2 e9 c4 c5 f0
 obtain ⟨_, rfl, c6⟩ := f0
 obtain ⟨f1, d2, rfl, d3, f2⟩ := Sl.shape c6
 unfold maxLen at f2
 have d3 : gx.length ≤ d2 := d3
 have c6 : Tns _ (.slice f1 gx.length d2) gx := c6
 refine aC ?_
 refine wn c2 ?_
 refine sk fun h3 c7 => ?_
 refine dx ?_
 refine dr bF (cC (b := false) rfl rfl (by decide)) ?_
 simp only [pq]
 refine wn c7 ?_
 refine aG ?_
 refine aI ?_
 refine b6 _ _ ?_
 refine aB ?_
 refine cD (k + 1) ?_
 refine dx ?_
 refine aH ?_
 have c4 := St.drop c4 (.cons _ (List.Sublist.refl _))
 exact b3 _ _ _ (by omega) ⟨(k + 1), e9, _, rfl, rfl, rfl, c4, ((a8.trans a0).trans c5), (by omega)⟩
 refine eM ?_
 simp only [pq]
 refine wn a9 ?_
 refine aF fun h4 f3 => ?_
 refine aG ?_
 refine cS ?_
 refine hK9 _ _ ?_
 refine sk fun h5 c8 => ?_
 refine dy ?_
 refine wn c8 ?_
 refine aO ?_
 try simp only [xt]
 refine bR (bC rfl (gD rfl)) ?_
 exact ⟨rfl, a7.gr.below⟩
theorem uV {w0 w : World} {F0 F : Fz} {L0 : List Blk} {M0 : List RowP} {v u : Value} {l p : By}
    (S : St w0 F0 w F L0 (bV 1 ByC ByC.mono 5 w0.heap.size v l :: M0)) (hu : Bs F u p) (hl : l.length ≤ 100000) (hp : p.length ≤ 1000) :
    Calls Tryz.prog 147 #[v, u] w fun e w' => ∃ v', e = .returned v' ∧ St w0 F0 w' F L0 (bV 1 ByC ByC.mono 5 w0.heap.size v' (l ++ dF p) :: M0) := by
 obtain ⟨a, c, rfl, hc1, hc2⟩ := (S.own (i := 0) rfl).shape
 obtain ⟨x, y, rfl, _⟩ := hu.shape
 unfold maxLen at hc2
 obtain ⟨i5, hi5, hz5, hs5, hb5⟩ := info_parts qH
 go_enter Tryz.func147, Tryz.ntmps147
 refine sk fun K1 hK1 => ?_
 refine dy ?_
 refine wn hK1 ?_
 refine sk fun K2 hK2 => ?_
 refine aC ?_
 refine dr (bv (b8 p.length)) (aX (v := (nI p.length)) rfl (kD p.length _)) ?_
 refine aZ S (v := fun n => .slice (aA n 0) 1 1) rfl (bS (ps := #[(0, (bv (b8 p.length)))]) (cells := #[(bv (b8 p.length))]) (E := 5) (cG rfl) (fun w => by kernel_rfl)) (fun n3 w4 S5 => ?_)
 refine eK (i := 0) (r := 0) (p := (b8 p.length)) (cs := [(bv (b8 p.length))]) S5 rfl i5 (.int .u8 0) 1 Tryz.underlying25 hi5 hz5 hs5 hb5 rfl (by decide) rfl rfl rfl rfl rfl (rB (b8 p.length)) (rfl) (Nat.le_refl _) S5.gr.below.size (by unfold maxLen; omega) (by omega) ?_
 intro v6 w7 S8 hn9
 simp only [pq]
 have S8 := St.drop S8 (.cons _ (List.Sublist.refl _))
 refine dx ?_
 refine eG (r := 0) (u := (.slice x p.length y)) S8 rfl i5 (.int .u8 0) 1 Tryz.underlying25 hi5 hz5 hs5 hb5 rfl (by decide) rfl rfl rfl (Sl.toW (Bs.sl hu) (S8).sat) ByC.one (Nat.le_refl _) S8.gr.below.size (by unfold maxLen; simp only [List.length_append, List.length_cons, List.length_nil]; omega) (by simp only [List.length_append, List.length_cons, List.length_nil]; omega) ?_
 intro a1 a2 a0 a3
 simp only [pq]
 have a0 : St w0 F0 a2 F (L0) (bV 1 ByC ByC.mono 5 w0.heap.size a1 ((l ++ [(b8 p.length)]) ++ p) :: M0) := a0
 refine dy ?_
 refine wn hK2 ?_
 refine aO ?_
 try simp only [xt]
 refine bR (bC rfl (gD rfl)) ?_
 ·have he : (l ++ [b8 p.length]) ++ p = l ++ dF p := by unfold dF; simp
  rw [he] at a0
  exact ⟨_, rfl, a0⟩
def hU (t n : Nat) : By := [b8 (t / 65536), b8 (t / 256), b8 t, b8 n]
theorem NS (t : Nat) (ws : List Wr) : eJ t ws = hU t ws.length ++ ws.flatMap kN := rfl
theorem mK (p : By) : (dF p).length = 1 + p.length := by simp [dF]; omega
theorem QF {ws : List Wr} (h : ∀ w ∈ ws, WrOk w) : (ws.flatMap kN).length ≤ 59 * ws.length := by
 induction ws with
 | nil => simp
 | cons w ws ih =>
  have hw := h w (by simp)
  have h1 := hw.name.2; have h2 := hw.key2; have h3 := hw.value
  have := RH hw.gone
  have := ih (fun x hx => h x (by simp [hx]))
  rw [List.flatMap_cons, List.length_append, List.length_cons]
  omega
theorem VR {H : By} {ws : List Wr} {k : Nat} {p : Wr} (hp : ws[k]? = some p) (hg : p.gone = true) : (((H ++ (ws.take k).flatMap kN) ++ dF p.name) ++ dF p.key) ++ [(255 : UInt8)] = H ++ (ws.take (k + 1)).flatMap kN := by
 rw [fL hp, List.flatMap_append]
 simp [kN, hg]
theorem As {H : By} {ws : List Wr} {k : Nat} {p : Wr} (hp : ws[k]? = some p) (hg : p.gone = false) : (((H ++ (ws.take k).flatMap kN) ++ dF p.name) ++ dF p.key) ++ dF p.value = H ++ (ws.take (k + 1)).flatMap kN := by
 rw [fL hp, List.flatMap_append]
 simp [kN, hg]
def Fv (b : By) (e : Int) (F : Fz) (u : Value) : Prop := ∃ x, u = .tuple #[x, .int .i64 e] ∧ Bs F x b
theorem JW (F : Fz) (w : World) (v : Value) (m : Cm) (hs : Sat w F) (hv : CmV F v m) (hm : CmOk m) :
    Calls Tryz.prog 134 #[v] w (dO w F (Fv (eJ m.turn m.writes) 0)) := by
 obtain ⟨x1, y1, rfl, h1⟩ := hv
 obtain ⟨_, _, e1, q2, q3⟩ := Sl.shape h1
 injection e1 with _ _ e1
 subst e1
 unfold maxLen at q3
 have hms := hm.some
 obtain ⟨i5, hi5, hz5, hs5, hb5⟩ := info_parts qH
 have S := St.start hs
 go_enter Tryz.func134, Tryz.ntmps134
 refine sk fun K1 hK1 => ?_
 refine aZ S (v := fun n => .pointer (aA n 0)) rfl (bW (v := (.agg #[(nI m.turn), (.slice x1 m.writes.length y1)])) rfl) (fun n2 w3 S4 => ?_)
 iterate 2 refine dy ?_
 refine wn hK1 ?_
 refine aF fun K5 hK5 => ?_
 refine sk fun K6 hK6 => ?_
 refine dR S4 0 Tryz.underlying168 (eN) ?_
 simp only [pq]
 refine aL (v := (iI 0)) S4 rfl (fn1 (PR _ _)) (xV _ _ _ m (S4).sat ⟨_, _, rfl, h1⟩ hm) (fun w7 S8 => ?_)
 refine dy ?_
 refine wn hK6 ?_
 refine sk fun K9 hK9 => ?_
 refine dx ?_
 refine dr bF (cC (b := false) rfl rfl (by decide)) ?_
 simp only [pq]
 refine wn hK9 ?_
 refine aG ?_
 refine aI ?_
 refine hK5 _ _ ?_
 refine sk fun g8 b4 => ?_
 refine aC ?_
 refine dr (nI (m.turn / 65536)) (HJ (m := m.turn) (n := 16) rfl rfl (by decide)) ?_
 simp only [pq]
 refine dr (bv (b8 (m.turn / 65536))) (aX (v := (nI (m.turn / 65536))) rfl (kD (m.turn / 65536) _)) ?_
 refine aC ?_
 refine dr (nI (m.turn / 256)) (HJ (m := m.turn) (n := 8) rfl rfl (by decide)) ?_
 refine dr (bv (b8 (m.turn / 256))) (aX (v := (nI (m.turn / 256))) rfl (kD (m.turn / 256) _)) ?_
 refine aC ?_
 refine dr (bv (b8 m.turn)) (aX (v := (nI m.turn)) rfl (kD m.turn _)) ?_
 refine aC ?_
 refine dr (bv (b8 m.writes.length)) (aX (v := (nI m.writes.length)) rfl (kD m.writes.length _)) ?_
 simp only [pq]
 refine aZ S8 (v := fun n => .slice (aA n 0) 4 4) rfl (bS (ps := #[(0, (bv (b8 (m.turn / 65536)))), (1, (bv (b8 (m.turn / 256)))), (2, (bv (b8 m.turn))), (3, (bv (b8 m.writes.length)))]) (cells := #[(bv (b8 (m.turn / 65536))), (bv (b8 (m.turn / 256))), (bv (b8 m.turn)), (bv (b8 m.writes.length))]) (E := 5) (mE rfl rfl rfl rfl) (fun w => by kernel_rfl)) (fun b5 e3 d7 => ?_)
 refine dy ?_
 refine wn b4 ?_
 refine aF fun g9 b6 => ?_
 refine sk fun h0 b7 => ?_
 refine aC ?_
 refine wn b7 ?_
 refine aM ?_
 have e4 : St w F e3 F [⟨n2, [(nI m.turn), (.slice x1 m.writes.length y1)], 168⟩] [bV 1 ByC ByC.mono 5 w.heap.size (.slice (aA b5 0) 4 4) (hU m.turn m.writes.length)] := St.blkRow (k := 1) (l := (hU m.turn m.writes.length)) (el := [[(bv (b8 (m.turn / 65536)))], [(bv (b8 (m.turn / 256)))], [(bv (b8 m.turn))], [(bv (b8 m.writes.length))]]) (hR := ByC.mono) d7 rfl ⟨rfl, rfl, rfl, rfl, trivial⟩ (by simp) rfl (by simp [hU]) (by unfold maxLen; decide) (d7.blk _ (List.mem_cons_self ..)).2.2
 refine aW (fun mm aa e5 => ∃ (k : Nat) (v : Value) (b2 : Fz) (b3 : Nat → Value), mm = m.writes.length - k ∧ b3 = dY aa ∧ aa = ⟨([(.agg #[(nI m.turn), (.slice x1 m.writes.length y1)]), (pP n2 0), Zn, (iI 0), (iI 0), v, undef, (b3 7), (.agg #[(nI m.turn), (.slice x1 m.writes.length y1)]), (iI 0), (iI 0), bF, undef, (pP n2 0), (nI m.turn), (nI (m.turn / 65536)), (bv (b8 (m.turn / 65536))), (pP n2 0), (nI m.turn), (nI (m.turn / 256)), (bv (b8 (m.turn / 256))), (pP n2 0), (nI m.turn), (bv (b8 m.turn)), (pP n2 1), (.slice x1 m.writes.length y1), (nI m.writes.length), (bv (b8 m.writes.length)), (.slice (aA b5 0) 4 4), (pP n2 1), (.slice x1 m.writes.length y1), (nI m.writes.length), (nI k)] ++ (usF b3 33 20 [undef])).toArray, []⟩ ∧ St w F e5 b2 [⟨n2, [(nI m.turn), (.slice x1 m.writes.length y1)], 168⟩] [bV 1 ByC ByC.mono 5 w.heap.size v ((hU m.turn m.writes.length) ++ (m.writes.take k).flatMap kN)] ∧ Le F b2 ∧ (k ≤ m.writes.length)) _ ⟨0, (.slice (aA b5 0) 4 4), F, _, rfl, rfl, rfl, e4, Le.refl _, (by omega)⟩ ?_
 rintro h2 h3 h4 ⟨k, v, b2, b3, rfl, -, hfr, a2, a3, hk⟩ h5 a9
 simp only [uzF, Nat.reduceAdd] at hfr; subst hfr
 refine sk fun h6 b0 => ?_
 by_cases b9 : k < m.writes.length
 ·refine fA ?_
  refine wn b0 ?_
  refine aF fun h7 c0 => ?_
  refine aK ?_
  refine aI ?_
  refine c0 _ _ ?_
  refine aF fun h8 b1 => ?_
  refine aM ?_
  refine aF fun h9 c1 => ?_
  obtain ⟨p, hp⟩ : ∃ p, m.writes[k]? = some p := ⟨m.writes[k], List.getElem?_eq_getElem b9⟩
  have hpo := hm.ok p (List.mem_of_getElem? hp)
  have hp1 := hpo.name.2
  have hp2 := hpo.key2
  have hp3 := hpo.value
  have hfl := QF (ws := m.writes.take k) (fun x hx => hm.ok x (List.mem_of_mem_take hx))
  rw [List.length_take] at hfl
  obtain ⟨e6, e7, c2, c3, c4, c5, c6, c7, c8, e8, e9, f0, f1, f2, f3, f4⟩ := Wrs.get (h1.mono a3) hp
  refine aB ?_
  refine dr (pP e6 (e7 + k * 4)) (bK (i := k) (sz := 4) Tryz.underlying40 (eT _) rfl c2 rfl (by omega) rfl) ?_
  refine dr _ (aE rfl (cU Tryz.underlying39 rfl (bI) (eL (St.fz a2 e8) (St.fz a2 e9) (St.fz a2 f0) (St.fz a2 f1)))) ?_
  simp only [pq]
  refine sA a2 (kC _) fun f5 i0 f6 => ?_
  refine sW 0 f6 (bI) fun f7 f8 => ?_
  refine wlK c1 ?_
  refine aF fun i1 c9 => ?_
  obtain ⟨f9, a0, a1⟩ := St.freezeBlk f8 (i := 0) rfl
  generalize addF b2 f7 f5 = d0 at *
  refine iG f9 (by kernel_rfl) (fun i2 a6 => ?_)
  refine eD 0 rfl a6.sat ?_
  simp only [pq]
  refine bM 1 rfl _ a6.sat (fun _ _ => ef (GG _ _)) ?_
  simp only [pq]
  refine bM 2 rfl _ a6.sat (fun _ d1 => aE rfl (aT (bD _) (St.fz (St.start d1) (a1 0 _ rfl)))) ?_
  simp only [pq]
  refine bM 4 rfl _ a6.sat (fun _ _ => ef (zM _ _)) ?_
  simp only [pq]
  refine bM 5 rfl _ a6.sat (fun _ d2 => aE rfl (aT (bD _) (St.fz (St.start d2) (a1 1 _ rfl)))) ?_
  simp only [pq]
  refine dQ 3 (by kernel_rfl) rfl ?_
  refine vX (L := [⟨n2, [(nI m.turn), (.slice x1 m.writes.length y1)], 168⟩]) (M := fun v_ => [bV 1 ByC ByC.mono 5 w.heap.size v_ (((hU m.turn m.writes.length) ++ (m.writes.take k).flatMap kN) ++ dF p.name)]) rfl (cP (vs := #[v, (.slice c3 p.name.length c4)]) (iX rfl rfl) rfl (GO _ _)) (uV a6 (f2.mono a0) (by simp only [List.length_append, mK, hU, List.length_cons, List.length_nil]; omega) (by omega)) ?_
  intro g0 i3 d8
  refine aH (dB d8.sat ?_)
  refine dQ 6 (by kernel_rfl) rfl ?_
  refine vX (L := [⟨n2, [(nI m.turn), (.slice x1 m.writes.length y1)], 168⟩]) (M := fun v_ => [bV 1 ByC ByC.mono 5 w.heap.size v_ ((((hU m.turn m.writes.length) ++ (m.writes.take k).flatMap kN) ++ dF p.name) ++ dF p.key)]) rfl (cP (vs := #[g0, (.slice c5 p.key.length c6)]) (iX rfl rfl) rfl (GO _ _)) (uV d8 (f3.mono a0) (by simp only [List.length_append, mK, hU, List.length_cons, List.length_nil]; omega) (by omega)) ?_
  intro g1 i4 a7
  simp only [pq]
  refine aH (dB a7.sat ?_)
  refine gA 7 rfl a7.sat ?_
  simp only [pq]
  refine jP (by kernel_rfl) ?_
  refine c9 _ _ ?_
  refine aF fun i6 d3 => ?_
  refine sk fun i7 d4 => ?_
  refine df (wC _ _) ?_
  refine dr _ (aE rfl (aT (iE _) (St.fz a7 (a1 2 _ rfl)))) ?_
  refine wn d4 ?_
  refine wp_cond_split rfl (fun a4 => ?_) (fun a4 => ?_)
  ·refine sk fun i8 d5 => ?_
   refine dx ?_
   simp only [pq]
   refine aZ a7 (v := fun n => .slice (aA n 0) 1 1) rfl (bS (ps := #[(0, (.int .u8 255))]) (cells := #[(.int .u8 255)]) (E := 5) (cG rfl) (fun w => by kernel_rfl)) (fun i9 j0 d9 => ?_)
   refine eK (i := 0) (r := 0) (p := (255 : UInt8)) (cs := [(.int .u8 255)]) d9 rfl i5 (.int .u8 0) 1 Tryz.underlying25 hi5 hz5 hs5 hb5 rfl (by decide) rfl rfl rfl rfl rfl (rB 255) (rfl) (Nat.le_refl _) d9.gr.below.size (by unfold maxLen; simp only [List.length_append, mK, hU, List.length_cons, List.length_nil]; omega) (by simp only [List.length_append, mK, hU, List.length_cons, List.length_nil]; omega) ?_
   intro e0 g2 a8 g3
   simp only [pq]
   have a8 := St.drop a8 (.cons _ (List.Sublist.refl _))
   have a8 : St w F g2 d0 [⟨n2, [(nI m.turn), (.slice x1 m.writes.length y1)], 168⟩] [bV 1 ByC ByC.mono 5 w.heap.size e0 (((((hU m.turn m.writes.length) ++ (m.writes.take k).flatMap kN) ++ dF p.name) ++ dF p.key) ++ [(255 : UInt8)])] := a8
   refine dy ?_
   refine wn d5 ?_
   refine cS ?_
   refine b1 _ _ ?_
   refine aB ?_
   refine cD (k + 1) ?_
   refine dx ?_
   simp only [pq]
   refine aH ?_
   rw [VR hp (by simpa using a4)] at a8
   exact a9 _ _ _ (by omega) ⟨(k + 1), e0, d0, _, rfl, rfl, rfl, a8, (a3.trans a0), (by omega)⟩
  ·refine aI ?_
   refine d3 _ _ ?_
   refine aB ?_
   refine aC ?_
   refine dr _ (aE rfl (aT (bD _) (St.fz a7 (a1 3 _ rfl)))) ?_
   simp only [pq]
   refine vX (L := [⟨n2, [(nI m.turn), (.slice x1 m.writes.length y1)], 168⟩]) (M := fun v_ => [bV 1 ByC ByC.mono 5 w.heap.size v_ (((((hU m.turn m.writes.length) ++ (m.writes.take k).flatMap kN) ++ dF p.name) ++ dF p.key) ++ dF p.value)]) rfl (cP (vs := #[g1, (.slice c7 p.value.length c8)]) (iX rfl rfl) rfl (GO _ _)) (uV a7 (f4.mono a0) (by simp only [List.length_append, mK, hU, List.length_cons, List.length_nil]; omega) (by omega)) ?_
   intro g4 j1 e2
   refine dy ?_
   refine wlK b1 ?_
   refine aB ?_
   refine cD (k + 1) ?_
   refine dx ?_
   simp only [pq]
   refine aH ?_
   rw [As hp (by simpa using a4)] at e2
   exact a9 _ _ _ (by omega) ⟨(k + 1), g4, d0, _, rfl, rfl, rfl, e2, (a3.trans a0), (by omega)⟩
 ·refine eM ?_
  refine wn b0 ?_
  refine aF fun j2 g5 => ?_
  refine aG ?_
  refine cS ?_
  refine b6 _ _ ?_
  refine sk fun j3 d6 => ?_
  refine aC ?_
  refine wn d6 ?_
  refine aO ?_
  try simp only [xt]
  refine bR (cI rfl (gD rfl) (gD rfl)) ?_
  ·have hend : m.writes.take k = m.writes := List.take_of_length_le (by omega)
   rw [hend] at a2
   obtain ⟨j4, g6, g7, a5⟩ := St.freeze a2 (i := 0) rfl (Nat.le_refl _)
   have a5 : Bys _ v ((hU m.turn m.writes.length) ++ m.writes.flatMap kN) := a5
   exact ⟨_, _, rfl, g6.gr, _, rfl, eA a5⟩
theorem HR {P : Program} {ρ : Operand → Value} {w : World} {d : Option Tmp} {t X Y : TypeId} {x y : Operand} {pos : String} {after : Array Edge} {guard : Option (Nat × Bool)} {m n r : Nat} (hx : ρ x = .int .i64 (m : Int)) (hy : ρ y = .int .u64 (n : Int)) (hn : n ≤ 64) (e : m * 2 ^ n = r) (hr : r ≤ 9223372036854775807) : (execOp ρ ⟨d, .binOp .shl X x y Y, t, pos, after, guard⟩).run P w = .ok (.value (.int .i64 ((r : Nat) : Int))) w := by
 subst e
 refine NC (.inr rfl) hx hy ?_
 show (Op.shift .shl .i64 (m : Int) .u64 (n : Int)).run P w = _
 unfold Op.shift
 rw [if_neg (by omega)]
 show Result.ok (Value.int .i64 (IntKind.i64.wrap ((m : Int) * 2 ^ (min (n : Int).toNat 64)))) w = _
 rw [Int.toNat_natCast, Nat.min_eq_left hn]
 have : (m : Int) * 2 ^ n = ((m * 2 ^ n : Nat) : Int) := by simp
 rw [this, jN (by omega) (by omega)]
theorem VS {P : Program} {ρ : Operand → Value} {w : World} {d : Option Tmp} {t X Y : TypeId} {x y : Operand} {pos : String} {after : Array Edge} {guard : Option (Nat × Bool)} {m n r : Nat} (hx : ρ x = .int .i64 (m : Int)) (hy : ρ y = .int .i64 (n : Int)) (hm : m < 9223372036854775808) (hn : n < 9223372036854775808) (e : m ||| n = r) : (execOp ρ ⟨d, .binOp .or X x y Y, t, pos, after, guard⟩).run P w = .ok (.value (.int .i64 ((r : Nat) : Int))) w := by
 subst e
 refine iW hx hy ?_
 rw [dP _ (by simp)]
 show Result.ok (Value.int .i64 (IntKind.i64.wrap ((BitVec.ofInt 64 (m : Int) ||| BitVec.ofInt 64 (n : Int)).toNat : Int))) w = _
 have h1 : (BitVec.ofInt 64 (m : Int) ||| BitVec.ofInt 64 (n : Int)).toNat = m ||| n := by
  rw [BitVec.toNat_or, BitVec.ofInt_natCast, BitVec.ofInt_natCast, BitVec.toNat_ofNat, BitVec.toNat_ofNat, Nat.mod_eq_of_lt (by omega), Nat.mod_eq_of_lt (by omega)]
 have h2 : m ||| n < 2 ^ 63 := Nat.or_lt_two_pow (by omega) (by omega)
 rw [h1, jN (by omega) (by omega)]
theorem Fw (x y : Nat) (h : y < 256) : x * 65536 ||| y * 256 = x * 65536 + y * 256 := by
 have := Nat.two_pow_add_eq_or_of_lt (i := 16) (b := y * 256) (by omega) x
 rw [show 2 ^ 16 * x = x * 65536 from by omega] at this
 exact this.symm
theorem or8 (x y z : Nat) (h : z < 256) : (x * 65536 + y * 256) ||| z = x * 65536 + y * 256 + z := by
 have := Nat.two_pow_add_eq_or_of_lt (i := 8) (b := z) (by omega) (x * 256 + y)
 rw [show 2 ^ 8 * (x * 256 + y) = x * 65536 + y * 256 from by omega] at this
 exact this.symm
theorem Bs.cut {F : Fz} {a : Option Addr} {m c n : Nat} {l : By} (h : Bs F (.slice a m c) l) (hn : n ≤ m) : Bs F (.slice a n n) (l.take n) := by
 have hm := h.len
 obtain ⟨a', c0, e, q1, _⟩ := h.shape
 injection e with _ _ e
 have := eA (Sl.cap (c' := n) (Sl.takeN (m := n) h.sl hn) (Nat.le_refl _) (by omega))
 exact this
theorem Bs.rest {F : Fz} {a : Option Addr} {m c n : Nat} {l : By} (h : Bs F (.slice a m c) l) (hn : n ≤ m) : Bs F (.slice (if c = n then a else a.map (·.add (n * 1))) (m - n) (c - n)) (l.drop n) := eA (Sl.dropAny (by decide) h.sl hn)
theorem tS (n : Nat) (r : Rr) : (kO n r).1.length = n := by
 unfold kO
 split
 ·simp
 ·rename_i h
  have : ¬ r.rest.length < n := fun k => h (.inr k)
  simp; omega
theorem EV {n : Nat} {r : Rr} (h : r.short = true ∨ r.rest.length < n) : kO n r = (List.replicate n 0, ⟨r.rest, true⟩) := by unfold kO; rw [if_pos h]
theorem NT {n : Nat} {r : Rr} (h1 : r.short = false) (h2 : ¬ r.rest.length < n) : kO n r = (r.rest.take n, ⟨r.rest.drop n, false⟩) := by unfold kO; rw [if_neg (by rw [h1]; simpa using h2)]
theorem rF (n : Nat) (r : Rr) : (kO n r).2.rest.length ≤ r.rest.length := by
 unfold kO
 split
 ·exact Nat.le_refl _
 ·simp
def Ck (w0 : World) (F0 F : Fz) (rb : Nat) (T : TypeId) (L0 : List Blk) (M0 : List RowP) (x : By × Rr) (e : Ending) (w' : World) : Prop := ∃ v a' c' F', e = .returned v ∧ Le F F' ∧ St w0 F0 w' F' (⟨rb, [.slice a' x.2.rest.length c', .bool x.2.short], T⟩ :: L0) M0 ∧ Bs F' (.slice a' x.2.rest.length c') x.2.rest ∧ Bs F' v x.1
def Cl (w0 : World) (F0 F : Fz) (rb : Nat) (T : TypeId) (L0 : List Blk) (M0 : List RowP) (x : Nat × Rr) (e : Ending) (w' : World) : Prop := ∃ a' c' F', e = .returned (.int .i64 ((x.1 : Nat) : Int)) ∧ Le F F' ∧ St w0 F0 w' F' (⟨rb, [.slice a' x.2.rest.length c', .bool x.2.short], T⟩ :: L0) M0 ∧ Bs F' (.slice a' x.2.rest.length c') x.2.rest
theorem HS {P : Program} {w0 w : World} {F0 F : Fz} {rb : Nat} {T : TypeId} {L0 : List Blk} {M0 : List RowP} {x : By × Rr} {ops : Array Oper} {Q : Exit → Act → World → Prop} {a : Act} {rest : List Oper} {o : Oper} {k : FuncId} {vs : Array Value} (hw : Region.wanted o (yielded ops a.tmps) = true)
    (hr : (execOp a.eval o).run P w = .ok (.enter k vs) w) (hc : Calls P k vs w (Ck w0 F0 F rb T L0 M0 x))
    (h : ∀ v a' c' w' F', Le F F' → St w0 F0 w' F' (⟨rb, [.slice a' x.2.rest.length c', .bool x.2.short], T⟩ :: L0) M0 → Bs F' (.slice a' x.2.rest.length c') x.2.rest → Bs F' v x.1 → WL P ops Q rest (a.put o.dst v) w') : WL P ops Q (o :: rest) a w :=
  doC hw hr hc fun e w' ⟨v, a', c', F', he, hl, hS, hb, hv⟩ => ⟨v, he, h v a' c' w' F' hl hS hb hv⟩
theorem uW {P : Program} {w0 w : World} {F0 F : Fz} {rb : Nat} {T : TypeId} {L0 : List Blk} {M0 : List RowP} {x : Nat × Rr} {ops : Array Oper} {Q : Exit → Act → World → Prop} {a : Act} {rest : List Oper} {o : Oper} {k : FuncId} {vs : Array Value} (hw : Region.wanted o (yielded ops a.tmps) = true)
    (hr : (execOp a.eval o).run P w = .ok (.enter k vs) w) (hc : Calls P k vs w (Cl w0 F0 F rb T L0 M0 x))
    (h : ∀ a' c' w' F', Le F F' → St w0 F0 w' F' (⟨rb, [.slice a' x.2.rest.length c', .bool x.2.short], T⟩ :: L0) M0 → Bs F' (.slice a' x.2.rest.length c') x.2.rest → WL P ops Q rest (a.put o.dst (.int .i64 ((x.1 : Nat) : Int))) w') : WL P ops Q (o :: rest) a w :=
  doC hw hr hc fun e w' ⟨a', c', F', he, hl, hS, hb⟩ => ⟨_, he, h a' c' w' F' hl hS hb⟩
theorem tT {w0 w : World} {F0 F : Fz} {L0 : List Blk} {M0 : List RowP} {rb : Nat} {a : Option Addr} {c : Nat} {r : Rr} {n : Nat}
    (S : St w0 F0 w F (⟨rb, [.slice a r.rest.length c, .bool r.short], 195⟩ :: L0) M0) (hr : Bs F (.slice a r.rest.length c) r.rest) (hn : n ≤ 1000) (hl : r.rest.length ≤ 100000) :
    Calls Tryz.prog 119 #[.pointer (some ⟨rb, 0, none⟩), .int .i64 ((n : Nat) : Int)] w (Ck w0 F0 F rb 195 L0 M0 (kO n r)) := by
 obtain ⟨_, _, e, hc1, hc2⟩ := hr.shape
 injection e with _ _ e
 subst e
 unfold maxLen at hc2
 obtain ⟨i5, hi5, hz5, hs5, hb5⟩ := info_parts qH
 go_enter Tryz.func119, Tryz.ntmps119
 refine sk fun K1 hK1 => ?_
 refine dy ?_
 refine wn hK1 ?_
 refine aF fun K2 hK2 => ?_
 refine aF fun K3 hK3 => ?_
 cases hsr : r.short with
 | true =>
  rw [hsr] at S
  refine aB ?_
  refine aC ?_
  refine wlK hK3 ?_
  refine aK ?_
  refine sk fun K4 hK4 => ?_
  refine aC ?_
  refine sW 0 S (uO) fun w5 S6 => ?_
  refine wn hK4 ?_
  refine sk fun K7 hK7 => ?_
  refine dx ?_
  refine FY (k := 1) (n := n) (m := n) S6 rfl i5 (.int .u8 0) 1 Tryz.underlying25 hi5 hz5 hs5 hb5 rfl rfl (by omega) (by omega) (by omega) ?_
  intro g8 w9 b0
  rw [show (madeCells (Value.int .u8 0).cells (n * 1)).toList = ((List.replicate n (0 : UInt8)).map bv) from by rw [show (Value.int .u8 0).cells = #[.int .u8 0] from rfl, toList_madeCells_one]; simp [bv]] at b0
  refine dy ?_
  simp only [pq]
  refine wn hK7 ?_
  refine aO ?_
  try simp only [xt]
  refine bR (bC rfl (gD rfl)) ?_
  rw [EV (.inl hsr)]
  obtain ⟨b6, a0, a3⟩ := St.freezeBlk b0 (i := 0) rfl
  have b1 := jD (l := List.replicate n (0 : UInt8)) a3 rfl (by rw [List.length_replicate]; unfold maxLen; omega)
  rw [List.length_replicate] at b1
  generalize addF F w9 g8 = c8 at *
  exact ⟨_, _, _, _, rfl, a0, b6, (hr.mono a0), b1⟩
 | false =>
  rw [hsr] at S
  refine aB ?_
  refine aC ?_
  by_cases b7 : r.rest.length < n
  refine fA ?_
  refine dp ?_
  refine wlK hK3 ?_
  refine aK ?_
  refine sk fun c9 a4 => ?_
  refine aC ?_
  refine sW 0 S (uO) fun d0 b9 => ?_
  refine wn a4 ?_
  refine sk fun d1 a5 => ?_
  refine dx ?_
  refine FY (k := 1) (n := n) (m := n) b9 rfl i5 (.int .u8 0) 1 Tryz.underlying25 hi5 hz5 hs5 hb5 rfl rfl (by omega) (by omega) (by omega) ?_
  intro c0 c1 b2
  rw [show (madeCells (Value.int .u8 0).cells (n * 1)).toList = ((List.replicate n (0 : UInt8)).map bv) from by rw [show (Value.int .u8 0).cells = #[.int .u8 0] from rfl, toList_madeCells_one]; simp [bv]] at b2
  refine dy ?_
  simp only [pq]
  refine wn a5 ?_
  refine aO ?_
  try simp only [xt]
  refine bR (bC rfl (gD rfl)) ?_
  rw [EV (.inr (by omega))]
  obtain ⟨c2, a1, a6⟩ := St.freezeBlk b2 (i := 0) rfl
  have b3 := jD (l := List.replicate n (0 : UInt8)) a6 rfl (by rw [List.length_replicate]; unfold maxLen; omega)
  rw [List.length_replicate] at b3
  generalize addF F c1 c0 = d2 at *
  exact ⟨_, _, _, _, rfl, a1, c2, (hr.mono a1), b3⟩
  refine eM ?_
  refine dp ?_
  refine wlK hK3 ?_
  refine aG ?_
  refine aI ?_
  refine hK2 _ _ ?_
  refine sk fun d3 a7 => ?_
  refine aC ?_
  have c3 : Bs _ (.slice a n n) (r.rest.take n) := Bs.cut hr (by omega)
  refine dr (.slice a n n) (iK (h := n) (m := n) (sz := 1) Tryz.underlying25 rfl (aV _) rfl rfl (by omega) (by omega) rfl) ?_
  refine dy ?_
  refine wn a7 ?_
  refine sk fun d4 a8 => ?_
  refine aC ?_
  have c4 : Bs _ (.slice (if c = n then a else a.map (·.add (n * 1))) (r.rest.length - n) (c - n)) (r.rest.drop n) := Bs.rest hr (by omega)
  refine dr (.slice (if c = n then a else a.map (·.add (n * 1))) (r.rest.length - n) (c - n)) (bA (l := n) (h := r.rest.length) (sz := 1) Tryz.underlying25 rfl (aV _) (.inr ⟨_, rfl, rfl⟩) (.inl ⟨rfl, rfl⟩) (by omega) (by omega) (rfl)) ?_
  refine aC ?_
  refine sW 0 S (oR) fun d5 b4 => ?_
  refine wn a8 ?_
  refine sk fun d6 a9 => ?_
  refine dx ?_
  refine aY b4 rfl (fn1 (gV _ _)) (dC _ _ _ (r.rest.take n) (b4).sat c3 (by simp only [List.length_take]; omega)) ?_
  intro d7 d8 d9 c5 a2 b5
  obtain ⟨c6, c7, rfl, _⟩ := b5.shape
  refine dy ?_
  simp only [pq]
  refine wn a9 ?_
  refine aO ?_
  try simp only [xt]
  refine bR (bC rfl (gD rfl)) ?_
  rw [NT hsr (by omega)]
  have hlen : r.rest.length - n = (r.rest.drop n).length := (List.length_drop ..).symm
  have hS := c5
  have hB := (c4.mono a2)
  rw [hlen] at hS hB
  exact ⟨_, _, _, _, rfl, a2, hS, hB, b5⟩
theorem lV {w0 w : World} {F0 F : Fz} {L0 : List Blk} {M0 : List RowP} {rb : Nat} {a : Option Addr} {c : Nat} {r : Rr}
    (S : St w0 F0 w F (⟨rb, [.slice a r.rest.length c, .bool r.short], 195⟩ :: L0) M0) (hr : Bs F (.slice a r.rest.length c) r.rest) (hl : r.rest.length ≤ 100000) :
    Calls Tryz.prog 118 #[.pointer (some ⟨rb, 0, none⟩)] w (Cl w0 F0 F rb 195 L0 M0 (jW r)) := by
 go_enter Tryz.func118, Tryz.ntmps118
 refine sk fun K1 hK1 => ?_
 refine dy ?_
 refine wn hK1 ?_
 refine sk fun K2 hK2 => ?_
 refine dx ?_
 refine HS rfl (cP (vs := #[(pP rb 0), (iI 1)]) (iX rfl rfl) rfl (zQ _ _)) (tT (n := 1) S hr (by omega) hl) ?_
 intro v3 a4 c5 w6 F7 le8 S9 a2 a0
 obtain ⟨b0, hb0⟩ : ∃ b, (kO 1 r).1 = [b] := List.length_eq_one_iff.1 (tS 1 r)
 rw [hb0] at a0
 obtain ⟨xa, xc, rfl, _⟩ := a0.shape
 simp only [pq]
 obtain ⟨a3, a5, a1, a6⟩ := Bs.get a0 (show ([b0] : By)[0]? = some b0 from rfl)
 refine dr (pP a3 (a5 + 0 * 1)) (bK (i := 0) (sz := 1) Tryz.underlying25 (aV _) rfl a1 rfl (by simp) rfl) ?_
 refine dr _ (aE rfl (aT (fG _) (St.fz S9 a6))) ?_
 refine dr (nI b0.toNat) (aX (v := (bv b0)) rfl (gB b0 _)) ?_
 simp only [pq]
 refine dy ?_
 refine wn hK2 ?_
 refine aO ?_
 try simp only [xt]
 refine bR (bC rfl (gD rfl)) ?_
 ·have he : (jW r).1 = b0.toNat := by unfold jW; rw [hb0]; rfl
  refine ⟨_, _, _, by rw [he], le8, S9, a2⟩
theorem JX (r : Wr) : (fZ [] [r]).1 = wrE r := by
 unfold fZ
 rw [if_neg (by simp)]
 by_cases h : wrE r = 0
 ·unfold dH
  rw [if_neg (by simp [h])]
  cases hw : eH [] r with
  | none =>
   have := (oM (m := 0) (ForestOk.nil 0) (nZ.1 h) (by omega) hw).1
   simp at this
  | some g => exact h.symm
 ·rw [qZ h]
def uH (l : List Wr) : Nat → Nat → Int
  | 0, _ => 0
  | n + 1, k => match l[k]? with
    | none => 0
    | some r => if k = 10 then 1 else if wrE r ≠ 0 then wrE r else uH l n (k + 1)
theorem CA {l : List Wr} {k : Nat} {r : Wr} (hp : l[k]? = some r) : uH l (l.length - k) k = if k = 10 then 1 else if wrE r ≠ 0 then wrE r else uH l (l.length - (k + 1)) (k + 1) := by
 obtain ⟨hk, _⟩ := List.getElem?_eq_some_iff.1 hp
 rw [show l.length - k = (l.length - (k + 1)) + 1 from by omega]
 simp only [uH, hp]
theorem RX {l : List Wr} {k : Nat} (hk : l.length ≤ k) : uH l (l.length - k) k = 0 := by rw [show l.length - k = 0 from by omega]; rfl
theorem JY {l : List Wr} : ∀ n k, n + k = l.length → (uH l n k = 0 ↔ ∀ (i : Nat) r, k ≤ i → l[i]? = some r → i ≠ 10 ∧ wrE r = 0)
  | 0, k, h => ⟨fun _ i r hi hr => by have := (List.getElem?_eq_some_iff.1 hr).1; omega, fun _ => rfl⟩
  | n + 1, k, h => by
    have hk : k < l.length := by omega
    obtain ⟨x, hp⟩ : ∃ x, l[k]? = some x := ⟨_, List.getElem?_eq_getElem hk⟩
    simp only [uH, hp]
    by_cases h1 : k = 10
    · rw [if_pos h1]
      exact ⟨fun h => by omega, fun h => absurd h1 (h k _ (Nat.le_refl _) hp).1⟩
    · rw [if_neg h1]
      by_cases h2 : wrE x = 0
      · rw [if_neg (by simpa using h2), JY n (k + 1) (by omega)]
        refine ⟨fun h i r hi hr => ?_, fun h i r hi hr => h i r (by omega) hr⟩
        rcases Nat.lt_or_eq_of_le hi with hi | rfl
        · exact h i r hi hr
        · rw [hp] at hr; cases hr; exact ⟨h1, h2⟩
      · rw [if_pos h2]
        exact ⟨fun h => absurd h h2, fun h => absurd (h k _ (Nat.le_refl _) hp).2 h2⟩
def oD (m : Cm) : Int := if m.turn < 1 ∨ 1048576 < m.turn then 2 else if m.writes.length < 1 then 1 else uH m.writes m.writes.length 0
theorem VT {m : Cm} : oD m = 0 ↔ CmOk m := by
 unfold oD
 by_cases h1 : m.turn < 1 ∨ 1048576 < m.turn
 rw [if_pos h1]; exact ⟨fun h => by omega, fun h => by have := h.turn; omega⟩
 rw [if_neg h1]
 by_cases h2 : m.writes.length < 1
 rw [if_pos h2]; exact ⟨fun h => by omega, fun h => by have := h.some; omega⟩
 rw [if_neg h2, JY _ _ (by omega)]
 constructor
 intro h
 refine ⟨by omega, ⟨by omega, ?_⟩, fun w hw => ?_⟩
 rcases Nat.lt_or_ge 10 m.writes.length with h3 | h3
 exact absurd rfl (h 10 _ (Nat.zero_le _) (List.getElem?_eq_getElem h3)).1
 exact h3
 obtain ⟨i, hi, rfl⟩ := List.mem_iff_getElem.1 hw
 exact nZ.1 (h i _ (Nat.zero_le _) (List.getElem?_eq_getElem hi)).2
 intro h i r _ hr
 have hi := (List.getElem?_eq_some_iff.1 hr).1
 have := h.some.2
 exact ⟨by omega, nZ.2 (h.ok r (List.mem_of_getElem? hr))⟩
theorem oE (r : Rr) : (jW r).1 < 256 := UInt8.toNat_lt _
theorem kK (r : Rr) : (jW r).2.rest.length ≤ r.rest.length := rF 1 r
def uX (b : By) : Int := if (cmR ⟨b, false⟩).2.short = true then 14 else if 0 < (cmR ⟨b, false⟩).2.rest.length then 4 else oD ⟨(cmR ⟨b, false⟩).1.1, (cmR ⟨b, false⟩).1.2⟩
def sS (b : By) : Cm := if uX b = 0 then ⟨(cmR ⟨b, false⟩).1.1, (cmR ⟨b, false⟩).1.2⟩ else ⟨0, []⟩
def Fb (m : Cm) (e : Int) (F : Fz) (u : Value) : Prop := ∃ x, u = .tuple #[x, .int .i64 e] ∧ CmV F x m
theorem JZ {T k : Nat} {N rk r' : Rr} {acc : List Wr} {w : Wr} (h : qN T N = (acc ++ (qN (T - k) rk).1, (qN (T - k) rk).2)) (hk : k < T) (hw : wrR rk = (w, r')) : qN T N = ((acc ++ [w]) ++ (qN (T - (k + 1)) r').1, (qN (T - (k + 1)) r').2) := by
 rw [h, show T - k = (T - (k + 1)) + 1 from by omega]
 simp only [qN, hw]
 simp
theorem At {T k : Nat} {N rk : Rr} {acc : List Wr} (h : qN T N = (acc ++ (qN (T - k) rk).1, (qN (T - k) rk).2)) (hk : T ≤ k) : qN T N = (acc, rk) := by
 rw [show T - k = 0 from by omega] at h
 simpa [qN] using h
def Cn (w : Wr) : Prop := w.name.length ≤ 100000 ∧ w.key.length ≤ 100000 ∧ w.value.length ≤ 100000
theorem CB (F : Fz) (w : World) (v : Value) (m : Cm) (hs : Sat w F) (hv : CmV F v m) (hbw : ∀ r ∈ m.writes, Cn r) :
    Calls Tryz.prog 120 #[v] w (cY w (.int .i64 (oD m))) := by
 obtain ⟨x1, y1, rfl, h1⟩ := hv
 obtain ⟨_, _, e1, q2, q3⟩ := Sl.shape h1
 injection e1 with _ _ e1
 subst e1
 unfold maxLen at q3
 have S := St.start hs
 go_enter Tryz.func120, Tryz.ntmps120
 refine sk fun K1 hK1 => ?_
 refine aZ S (v := fun n => .pointer (aA n 0)) rfl (bW (v := (.agg #[(nI m.turn), (.slice x1 m.writes.length y1)])) rfl) (fun n2 w3 S4 => ?_)
 refine dy ?_
 refine wn hK1 ?_
 refine aF fun K5 hK5 => ?_
 refine sk fun K6 hK6 => ?_
 refine aC ?_
 by_cases hc9 : m.turn < 1
 refine fA ?_
 refine aC ?_
 refine wn hK6 ?_
 refine aK ?_
 refine sk fun K7 hK7 => ?_
 refine dy ?_
 refine wn hK7 ?_
 refine aO ?_
 try simp only [xt]
 refine bR (bC rfl (gD rfl)) ?_
 exact ⟨by unfold oD; rw [if_pos (by omega)], S4.gr.below⟩
 refine eM ?_
 refine aC ?_
 by_cases d6 : 1048576 < m.turn
 refine pR ?_
 refine dp ?_
 refine wn hK6 ?_
 refine aK ?_
 refine sk fun K8 hK8 => ?_
 refine dy ?_
 simp only [pq]
 refine wn hK8 ?_
 refine aO ?_
 try simp only [xt]
 refine bR (bC rfl (gD rfl)) ?_
 exact ⟨by unfold oD; rw [if_pos (by omega)], S4.gr.below⟩
 refine lF ?_
 refine dp ?_
 refine wn hK6 ?_
 refine aG ?_
 refine aI ?_
 refine hK5 _ _ ?_
 refine aF fun K9 hK9 => ?_
 refine sk fun f9 a8 => ?_
 refine aC ?_
 by_cases d7 : m.writes.length < 1
 refine fA ?_
 refine wn a8 ?_
 refine aK ?_
 refine sk fun g0 b6 => ?_
 refine dy ?_
 refine wn b6 ?_
 refine aO ?_
 try simp only [xt]
 refine bR (bC rfl (gD rfl)) ?_
 exact ⟨by unfold oD; rw [if_neg (by omega), if_pos (by omega)], S4.gr.below⟩
 refine eM ?_
 simp only [pq]
 refine wn a8 ?_
 refine aG ?_
 refine aI ?_
 refine hK9 _ _ ?_
 refine aF fun g1 b7 => ?_
 refine sk fun g2 b9 => ?_
 refine aC ?_
 refine wn b9 ?_
 refine aM ?_
 refine aW (fun mm aa d8 => ∃ (k : Nat) (b3 : Fz) (b4 : Nat → Value), mm = m.writes.length - k ∧ b4 = dY aa ∧ aa = ⟨([(.agg #[(nI m.turn), (.slice x1 m.writes.length y1)]), (pP n2 0)] ++ (usF b4 2 5 ([(pP n2 0), (nI m.turn), bF, bF, (pP n2 0), (nI m.turn), bF, bF, (pP n2 1), (.slice x1 m.writes.length y1), (nI m.writes.length), bF, (pP n2 1), (.slice x1 m.writes.length y1), (nI m.writes.length), (nI k)] ++ (usF b4 23 16 [])))).toArray, []⟩ ∧ St w F d8 b3 [⟨n2, [(nI m.turn), (.slice x1 m.writes.length y1)], 168⟩] [] ∧ Le F b3 ∧ (k ≤ m.writes.length) ∧ (uH m.writes m.writes.length 0 = uH m.writes (m.writes.length - k) k)) _ ⟨0, F, _, rfl, rfl, rfl, S4, Le.refl _, (by omega), rfl⟩ ?_
 rintro g3 g4 g5 ⟨k, b3, b4, rfl, -, hfr, a7, a9, hk, hT⟩ g6 c0
 simp only [uzF, Nat.reduceAdd] at hfr; subst hfr
 refine sk fun g7 b0 => ?_
 by_cases c1 : k < m.writes.length
 refine fA ?_
 refine wn b0 ?_
 refine aF fun g8 c2 => ?_
 refine aK ?_
 refine aI ?_
 refine c2 _ _ ?_
 refine aF fun g9 c3 => ?_
 refine aM ?_
 refine aF fun h0 c4 => ?_
 obtain ⟨p, hp⟩ : ∃ p, m.writes[k]? = some p := ⟨m.writes[k], List.getElem?_eq_getElem c1⟩
 have hpb := hbw p (List.mem_of_getElem? hp)
 obtain ⟨d9, e0, c5, a1, a2, a3, a4, a5, a6, e2, e3, e4, e5, e6, e7, e8⟩ := Wrs.get (h1.mono a9) hp
 refine aB ?_
 refine dx ?_
 refine dr (pP d9 (e0 + k * 4)) (bK (i := k) (sz := 4) Tryz.underlying40 (eT _) rfl c5 rfl (by omega) rfl) ?_
 refine dr _ (aE rfl (cU Tryz.underlying39 rfl (bI) (eL (St.fz a7 e2) (St.fz a7 e3) (St.fz a7 e4) (St.fz a7 e5)))) ?_
 simp only [pq]
 refine sA a7 (kC _) fun h2 h3 e9 => ?_
 refine dy ?_
 refine sW 0 e9 (bI) fun h4 c6 => ?_
 simp only [pq]
 refine wlK c4 ?_
 refine aF fun h5 c7 => ?_
 refine sk fun h6 b1 => ?_
 refine dx ?_
 simp only [pq]
 by_cases f0 : k = 10
 refine iR ?_
 refine wn b1 ?_
 refine aK ?_
 refine sk fun h7 c8 => ?_
 refine dy ?_
 refine wn c8 ?_
 refine aO ?_
 try simp only [xt]
 refine bR (bC rfl (gD rfl)) ?_
 exact ⟨by unfold oD; rw [if_neg (by omega), if_neg (by omega), hT, CA hp, if_pos (by omega)]; try rfl, c6.gr.below⟩
 refine gL ?_
 simp only [pq]
 refine wn b1 ?_
 refine aG ?_
 refine aI ?_
 refine c7 _ _ ?_
 refine sk fun h8 c9 => ?_
 refine dR c6 0 Tryz.underlying39 (bI) ?_
 refine aZ c6 (v := fun n => .slice (aA n 0) 1 1) rfl (bS (ps := #[(0, (.agg #[(.slice a1 p.name.length a2), (.slice a3 p.key.length a4), (.bool p.gone), (.slice a5 p.value.length a6)]))]) (cells := #[(.slice a1 p.name.length a2), (.slice a3 p.key.length a4), (.bool p.gone), (.slice a5 p.value.length a6)]) (E := 39) (cG rfl) (fun w => by kernel_rfl)) (fun d4 f1 f2 => ?_)
 simp only [pq]
 obtain ⟨d5, a0, d0⟩ := St.freezeBlk f2 (i := 0) rfl
 have f3 : Wrs _ (.slice (some ⟨d4, 0, none⟩) 1 1) [p] := fS (R := WrC) (l := [p]) (el := [[(.slice a1 p.name.length a2), (.slice a3 p.key.length a4), (.bool p.gone), (.slice a5 p.value.length a6)]]) d0 rfl ⟨⟨_, _, _, _, rfl, (e6.mono a0), (e7.mono a0), rfl, (e8.mono a0)⟩, trivial⟩ (by simp) (by unfold maxLen; simp)
 generalize addF b3 f1 d4 = h9 at *
 refine aY d5 rfl (fn2 (xP _ _)) (uU _ _ _ _ [] [p] (d5).sat (Sl.nil _ _ _) f3 (ForestOk.nil 60) (fun q hq => by rw [List.mem_singleton.1 hq]; exact hpb)) ?_
 intro i0 i1 f4 b5 d1 f5
 obtain ⟨_, rfl, f6⟩ := f5
 obtain ⟨i2, i3, rfl, _⟩ := Sl.shape f6
 have hee := JX p
 refine aC ?_
 refine wn c9 ?_
 refine sk fun i4 b2 => ?_
 refine dx ?_
 simp only [pq]
 by_cases f7 : (fZ [] [p]).1 = (0 : Int)
 refine lQ ?_
 refine wn b2 ?_
 refine aG ?_
 refine aI ?_
 refine c3 _ _ ?_
 refine aB ?_
 refine cD (k + 1) ?_
 refine dx ?_
 simp only [pq]
 refine aH ?_
 have b5 := St.drop b5 (.cons _ (List.Sublist.refl _))
 exact c0 _ _ _ (by omega) ⟨(k + 1), f4, _, rfl, rfl, rfl, b5, ((a9.trans a0).trans d1), (by omega), (by rw [hT, CA hp, if_neg (by omega), if_neg (by omega)])⟩
 refine mS ?_
 refine wn b2 ?_
 refine aK ?_
 refine sk fun i5 d2 => ?_
 refine aC ?_
 refine wn d2 ?_
 refine aO ?_
 try simp only [xt]
 refine bR (bC rfl (gD rfl)) ?_
 exact ⟨by unfold oD; rw [if_neg (by omega), if_neg (by omega), hT, CA hp, if_neg (by omega), if_pos (by omega), hee]; try rfl, b5.gr.below⟩
 refine eM ?_
 refine wn b0 ?_
 refine aF fun i6 f8 => ?_
 refine aG ?_
 refine cS ?_
 refine b7 _ _ ?_
 refine sk fun i7 d3 => ?_
 refine dy ?_
 refine wn d3 ?_
 refine aO ?_
 try simp only [xt]
 refine bR (bC rfl (gD rfl)) ?_
 exact ⟨by unfold oD; rw [if_neg (by omega), if_neg (by omega), hT, RX (by omega)], a7.gr.below⟩
theorem KA (F : Fz) (w : World) (v : Value) (b : By) (hs : Sat w F) (hb : Bs F v b) (hl : b.length ≤ 4000) :
    Calls Tryz.prog 98 #[v] w (dO w F (Fb (sS b) (uX b))) := by
 obtain ⟨x, y, rfl, hc1, hc2⟩ := hb.shape
 unfold maxLen at hc2
 have hl0 : (⟨b, false⟩ : Rr).rest.length ≤ 4000 := hl
 obtain ⟨n6, e0, e1, e2, e3⟩ := info_parts GF
 have S := St.start hs
 go_enter Tryz.func98, Tryz.ntmps98
 refine sk fun K1 hK1 => ?_
 refine sA S (sB _) fun n2 w3 S4 => ?_
 refine dy ?_
 refine wn hK1 ?_
 refine aF fun K5 hK5 => ?_
 refine sk fun K6 hK6 => ?_
 refine aC ?_
 refine lF ?_
 simp only [pq]
 refine wn hK6 ?_
 refine aG ?_
 refine aI ?_
 refine hK5 _ _ ?_
 refine sk fun K7 hK7 => ?_
 refine dx ?_
 refine dr (.agg #[(.slice x b.length y), bF]) (aJ (cG rfl) (by kernel_rfl)) ?_
 refine aZ S4 (v := fun n => .pointer (aA n 0)) rfl (bW (v := (.agg #[(.slice x b.length y), bF])) rfl) (fun n8 w9 o4 => ?_)
 refine dy ?_
 simp only [pq]
 refine wn hK7 ?_
 refine sk fun w6 i3 => ?_
 refine dx ?_
 simp only [pq]
 have o5 := St.front o4 (i := 0) rfl
 refine uW rfl (cP (vs := #[(pP n8 0)]) (kX rfl) rfl (qV _ _)) (lV (r := (⟨b, false⟩ : Rr)) o5 hb (by omega)) ?_
 intro w7 w8 x0 x1 o6 o7 o8
 have i4 := oE (⟨b, false⟩ : Rr)
 have i5 := kK (⟨b, false⟩ : Rr)
 generalize i6 : jW (⟨b, false⟩ : Rr) = a2 at *
 refine dr (nI (a2.1 * 65536)) (HR (m := a2.1) (n := 16) (r := a2.1 * 65536) rfl rfl (by decide) rfl (by omega)) ?_
 refine dx ?_
 simp only [pq]
 have o9 := St.front o7 (i := 0) rfl
 refine uW rfl (cP (vs := #[(pP n8 0)]) (kX rfl) rfl (qV _ _)) (lV (r := a2.2) o9 o8 (by omega)) ?_
 intro x2 x3 x4 x5 p0 p1 p2
 have i7 := oE a2.2
 have i8 := kK a2.2
 generalize i9 : jW a2.2 = a3 at *
 refine dr (nI (a3.1 * 256)) (HR (m := a3.1) (n := 8) (r := a3.1 * 256) rfl rfl (by decide) rfl (by omega)) ?_
 refine dr (nI ((a2.1 * 65536) + (a3.1 * 256))) (VS (m := (a2.1 * 65536)) (n := (a3.1 * 256)) (r := (a2.1 * 65536) + (a3.1 * 256)) rfl rfl (by omega) (by omega) (Fw _ _ (by omega))) ?_
 refine dx ?_
 simp only [pq]
 have p3 := St.front p1 (i := 0) rfl
 refine uW rfl (cP (vs := #[(pP n8 0)]) (kX rfl) rfl (qV _ _)) (lV (r := a3.2) p3 p2 (by omega)) ?_
 intro x6 x7 x8 x9 p4 p5 p6
 have j0 := oE a3.2
 have j1 := kK a3.2
 generalize j2 : jW a3.2 = a7 at *
 refine dr (.int .i64 (((((a2.1 * 65536) + (a3.1 * 256)) + a7.1) : Nat) : Int)) (VS (m := ((a2.1 * 65536) + (a3.1 * 256))) (n := a7.1) (r := ((a2.1 * 65536) + (a3.1 * 256)) + a7.1) rfl rfl (by omega) (by omega) (or8 _ _ _ (by omega))) ?_
 refine dr (.agg #[(.int .i64 (((((a2.1 * 65536) + (a3.1 * 256)) + a7.1) : Nat) : Int)), Zn]) (aJ (cG rfl) (by kernel_rfl)) ?_
 refine sA p5 (sB _) fun n7 y0 p7 => ?_
 simp only [pq]
 refine sW 0 p7 (eN) fun y1 p8 => ?_
 refine wn i3 ?_
 refine aF fun y2 j3 => ?_
 refine sk fun y3 j4 => ?_
 refine dx ?_
 simp only [pq]
 have p9 := St.front p8 (i := 1) rfl
 refine uW rfl (cP (vs := #[(pP n8 0)]) (kX rfl) rfl (qV _ _)) (lV (r := a7.2) p9 p6 (by omega)) ?_
 intro q0 q1 y4 n9 q2 q3 q4
 have j5 := oE a7.2
 have j6 := kK a7.2
 generalize j7 : jW a7.2 = c3 at *
 refine dx ?_
 refine wn j4 ?_
 refine aM ?_
 have q5 := St.addNil q3 4 WrC WrC.mono 39 w.heap.size
 refine aW (fun mm aa q6 => ∃ (k : Nat) (rk : Rr) (acc : List Wr) (v : Value) (ra : Option Addr) (rc : Nat) (h4 : Fz) (e4 : Nat → Value), mm = c3.1 - k ∧ e4 = dY aa ∧ aa = ⟨([(.slice x b.length y), undef, (pP n2 0), (iI 0), (pP n8 0), (pP n7 0), (e4 6), (e4 7), undef, (.slice x b.length y), (nI b.length), bF, undef, (.slice x b.length y), (.agg #[(.slice x b.length y), bF]), (pP n8 0), (pP n8 0), (nI a2.1), (nI (a2.1 * 65536)), (pP n8 0), (nI a3.1), (nI (a3.1 * 256)), (nI ((a2.1 * 65536) + (a3.1 * 256))), (pP n8 0), (nI a7.1), (.int .i64 (((((a2.1 * 65536) + (a3.1 * 256)) + a7.1) : Nat) : Int)), (.agg #[(.int .i64 (((((a2.1 * 65536) + (a3.1 * 256)) + a7.1) : Nat) : Int)), Zn]), (pP n8 0), (nI c3.1), (nI k)] ++ (usF e4 30 27 (udF 22 []))).toArray, []⟩ ∧ St w F q6 h4 [⟨n8, [(.slice ra rk.rest.length rc), (.bool rk.short)], 195⟩, ⟨n7, [(.int .i64 (((((a2.1 * 65536) + (a3.1 * 256)) + a7.1) : Nat) : Int)), v], 168⟩, ⟨n2, [(iI 0), Zn], 168⟩] [bV 4 WrC WrC.mono 39 w.heap.size v acc] ∧ Le n9 h4 ∧ (k ≤ c3.1) ∧ (Bs h4 (.slice ra rk.rest.length rc) rk.rest) ∧ (rk.rest.length ≤ 4000) ∧ (qN c3.1 c3.2 = (acc ++ (qN (c3.1 - k) rk).1, (qN (c3.1 - k) rk).2)) ∧ (acc.length = k) ∧ (∀ z ∈ acc, Cn z)) _ ⟨0, c3.2, [], Zn, q0, q1, n9, _, rfl, rfl, rfl, q5, Le.refl _, (by omega), q4, (by omega), (by simp), rfl, (by simp)⟩ ?_
 rintro y5 y6 y7 ⟨k, rk, acc, v, ra, rc, h4, e4, rfl, -, hfr, j8, e5, hk, hrk, hrl, hinv, hal, hsm⟩ y8 e6
 simp only [uzF, Nat.reduceAdd] at hfr; subst hfr
 refine sk fun y9 e7 => ?_
 by_cases q7 : k < c3.1
 refine fA ?_
 refine wn e7 ?_
 refine aF fun z0 j9 => ?_
 refine aK ?_
 refine aI ?_
 refine j9 _ _ ?_
 refine aF fun z1 e8 => ?_
 refine aM ?_
 refine sk fun z2 k0 => ?_
 refine aC ?_
 have q8 := St.front j8 (i := 0) rfl
 refine uW rfl (cP (vs := #[(pP n8 0)]) (kX rfl) rfl (qV _ _)) (lV (r := rk) q8 hrk (by omega)) ?_
 intro z3 z4 z5 z6 e9 q9 r0
 have k1 := oE rk
 have k2 := kK rk
 generalize f0 : jW rk = c4 at *
 simp only [pq]
 have r1 := St.front q9 (i := 0) rfl
 refine HS rfl (cP (vs := #[(pP n8 0), (nI c4.1)]) (iX rfl rfl) rfl (zQ _ _)) (tT (r := c4.2) (n := c4.1) r1 r0 (by omega) (by omega)) ?_
 intro z7 z8 z9 ab ac f1 r2 r3 f2
 have k3 := tS c4.1 c4.2
 have k4 := rF c4.1 c4.2
 generalize f3 : kO c4.1 c4.2 = a5 at *
 obtain ⟨b4, b5, rfl, _⟩ := f2.shape
 refine dr (.agg #[(.slice b4 a5.1.length b5), Zn, bF, Zn]) (aJ (cG rfl) (by kernel_rfl)) ?_
 refine sA r2 (kC _) fun ad ae r4 => ?_
 refine sW 0 r4 (bI) fun af r5 => ?_
 simp only [pq]
 refine wn k0 ?_
 refine sk fun ag k5 => ?_
 refine aC ?_
 have r6 := St.front r5 (i := 1) rfl
 refine uW rfl (cP (vs := #[(pP n8 0)]) (kX rfl) rfl (qV _ _)) (lV (r := a5.2) r6 r3 (by omega)) ?_
 intro ah ai r7 r8 a8 k6 k7
 have h5 := oE a5.2
 have h6 := kK a5.2
 generalize c7 : jW a5.2 = b2 at *
 simp only [pq]
 have k8 := St.front k6 (i := 0) rfl
 refine HS rfl (cP (vs := #[(pP n8 0), (nI b2.1)]) (iX rfl rfl) rfl (zQ _ _)) (tT (r := b2.2) (n := b2.1) k8 k7 (by omega) (by omega)) ?_
 intro r9 s0 s1 s2 s3 a9 k9 l0 b7
 have h7 := tS b2.1 b2.2
 have h8 := rF b2.1 b2.2
 generalize c8 : kO b2.1 b2.2 = a0 at *
 obtain ⟨b0, b1, rfl, _⟩ := b7.shape
 refine df (zM _ _) ?_
 refine sW 1 k9 (oR) fun s4 l1 => ?_
 refine wn k5 ?_
 refine aF fun s5 c9 => ?_
 refine sk fun s6 f4 => ?_
 refine dx ?_
 simp only [pq]
 have l2 := St.front l1 (i := 0) rfl
 refine uW rfl (cP (vs := #[(pP n8 0)]) (kX rfl) rfl (qV _ _)) (lV (r := a0.2) l2 l0 (by omega)) ?_
 intro l3 l4 s7 l5 a1 f5 f6
 have h9 := oE a0.2
 have i0 := kK a0.2
 generalize d0 : jW a0.2 = a4 at *
 refine dy ?_
 refine wn f4 ?_
 refine sk fun s8 d1 => ?_
 refine dx ?_
 simp only [pq]
 by_cases s9 : a4.1 = 255
 refine iR ?_
 refine wn d1 ?_
 refine aK ?_
 refine aB ?_
 refine df (wC _ _) ?_
 refine sW 1 f5 (uO) fun t0 f7 => ?_
 simp only [pq]
 refine wlK c9 ?_
 refine aB ?_
 refine aC ?_
 refine dR f7 1 Tryz.underlying39 (bI) ?_
 simp only [pq]
 refine aZ f7 (v := fun n => .slice (aA n 0) 1 1) rfl (bS (ps := #[(0, (.agg #[(.slice b4 a5.1.length b5), (.slice b0 a0.1.length b1), bT, Zn]))]) (cells := #[(.slice b4 a5.1.length b5), (.slice b0 a0.1.length b1), bT, Zn]) (E := 39) (cG rfl) (fun w => by kernel_rfl)) (fun t1 t2 f8 => ?_)
 refine eK (i := 0) (r := 0) (p := (⟨a5.1, a0.1, true, []⟩ : Wr)) (cs := [(.slice b4 a5.1.length b5), (.slice b0 a0.1.length b1), bT, Zn]) f8 rfl n6 (.agg #[Zn, Zn, bF, Zn]) 80 Tryz.underlying40 e0 e1 e2 e3 rfl (by decide) rfl rfl rfl rfl rfl (WrC.oneCell (p := (⟨a5.1, a0.1, true, []⟩ : Wr)) ⟨_, _, _, _, rfl, (f2.mono ((a8.trans a9).trans a1)), (b7.mono a1), rfl, Bs.nil _⟩) (⟨_, _, _, _, rfl, (f2.mono ((a8.trans a9).trans a1)), (b7.mono a1), rfl, Bs.nil _⟩) (Nat.le_refl _) f8.gr.below.size (by unfold maxLen; omega) (by omega) ?_
 intro t3 t4 c5 o0
 simp only [pq]
 have c5 := St.drop c5 (.cons _ (List.Sublist.refl _))
 obtain ⟨l6, d4, rfl, t5, l7⟩ := (c5.own (i := 0) rfl).shape
 unfold maxLen at l7
 refine df (sC _ _) ?_
 refine sW 2 c5 (GA) fun t6 l8 => ?_
 refine wlK e8 ?_
 have l9 := St.front l8 (i := 3) rfl
 have m0 := St.front l9 (i := 3) rfl
 have m1 := St.front m0 (i := 2) rfl
 have d5 := St.front m1 (i := 3) rfl
 refine aB ?_
 refine cD (k + 1) ?_
 refine dx ?_
 simp only [pq]
 refine aH ?_
 have d5 := St.drop d5 (.cons _ (List.Sublist.refl _))
 have hwr : wrR rk = ((⟨a5.1, a0.1, true, []⟩ : Wr), a4.2) := by unfold wrR EB; simp only [f0, f3, c7, c8, d0]; rw [if_pos (by omega)]
 exact e6 _ _ _ (by omega) ⟨(k + 1), a4.2, (acc ++ [(⟨a5.1, a0.1, true, []⟩ : Wr)]), (.slice l6 (acc ++ [(⟨a5.1, a0.1, true, []⟩ : Wr)]).length d4), l3, l4, l5, _, rfl, rfl, rfl, d5, (((((e5.trans e9).trans f1).trans a8).trans a9).trans a1), (by omega), f6, (by omega), (JZ hinv (by omega) hwr), (by simp; omega), (by intro z hz; rcases List.mem_append.1 hz with hz | hz; exact hsm z hz; rw [List.mem_singleton.1 hz]; exact ⟨by show a5.1.length ≤ _; omega, by show a0.1.length ≤ _; omega, by simp⟩)⟩
 refine gL ?_
 refine wn d1 ?_
 refine aG ?_
 refine aB ?_
 refine aC ?_
 have m2 := St.front f5 (i := 0) rfl
 refine HS rfl (cP (vs := #[(pP n8 0), (nI a4.1)]) (iX rfl rfl) rfl (zQ _ _)) (tT (r := a4.2) (n := a4.1) m2 f6 (by omega) (by omega)) ?_
 intro t7 m3 m4 t8 m5 b3 m6 m7 d6
 have i1 := tS a4.1 a4.2
 have i2 := rF a4.1 a4.2
 generalize f9 : kO a4.1 a4.2 = a6 at *
 obtain ⟨b9, c0, rfl, _⟩ := d6.shape
 refine df (zN _ _) ?_
 refine sW 1 m6 (oR) fun t9 g0 => ?_
 refine wlK c9 ?_
 refine aB ?_
 refine aC ?_
 refine dR g0 1 Tryz.underlying39 (bI) ?_
 simp only [pq]
 refine aZ g0 (v := fun n => .slice (aA n 0) 1 1) rfl (bS (ps := #[(0, (.agg #[(.slice b4 a5.1.length b5), (.slice b0 a0.1.length b1), bF, (.slice b9 a6.1.length c0)]))]) (cells := #[(.slice b4 a5.1.length b5), (.slice b0 a0.1.length b1), bF, (.slice b9 a6.1.length c0)]) (E := 39) (cG rfl) (fun w => by kernel_rfl)) (fun u0 u1 g1 => ?_)
 refine eK (i := 0) (r := 0) (p := (⟨a5.1, a0.1, false, a6.1⟩ : Wr)) (cs := [(.slice b4 a5.1.length b5), (.slice b0 a0.1.length b1), bF, (.slice b9 a6.1.length c0)]) g1 rfl n6 (.agg #[Zn, Zn, bF, Zn]) 80 Tryz.underlying40 e0 e1 e2 e3 rfl (by decide) rfl rfl rfl rfl rfl (WrC.oneCell (p := (⟨a5.1, a0.1, false, a6.1⟩ : Wr)) ⟨_, _, _, _, rfl, (f2.mono (((a8.trans a9).trans a1).trans b3)), (b7.mono (a1.trans b3)), rfl, d6⟩) (⟨_, _, _, _, rfl, (f2.mono (((a8.trans a9).trans a1).trans b3)), (b7.mono (a1.trans b3)), rfl, d6⟩) (Nat.le_refl _) g1.gr.below.size (by unfold maxLen; omega) (by omega) ?_
 intro u2 u3 c6 o1
 simp only [pq]
 have c6 := St.drop c6 (.cons _ (List.Sublist.refl _))
 obtain ⟨m8, d7, rfl, u4, m9⟩ := (c6.own (i := 0) rfl).shape
 unfold maxLen at m9
 refine df (sC _ _) ?_
 refine sW 2 c6 (GA) fun u5 n0 => ?_
 refine wlK e8 ?_
 have n1 := St.front n0 (i := 3) rfl
 have n3 := St.front n1 (i := 3) rfl
 have n4 := St.front n3 (i := 2) rfl
 have d8 := St.front n4 (i := 3) rfl
 refine aB ?_
 refine cD (k + 1) ?_
 refine dx ?_
 simp only [pq]
 refine aH ?_
 have d8 := St.drop d8 (.cons _ (List.Sublist.refl _))
 have hwr : wrR rk = ((⟨a5.1, a0.1, false, a6.1⟩ : Wr), a6.2) := by unfold wrR EB; simp only [f0, f3, c7, c8, d0]; rw [if_neg (by omega), f9]
 exact e6 _ _ _ (by omega) ⟨(k + 1), a6.2, (acc ++ [(⟨a5.1, a0.1, false, a6.1⟩ : Wr)]), (.slice m8 (acc ++ [(⟨a5.1, a0.1, false, a6.1⟩ : Wr)]).length d7), m3, m4, m5, _, rfl, rfl, rfl, d8, ((((((e5.trans e9).trans f1).trans a8).trans a9).trans a1).trans b3), (by omega), m7, (by omega), (JZ hinv (by omega) hwr), (by simp; omega), (by intro z hz; rcases List.mem_append.1 hz with hz | hz; exact hsm z hz; rw [List.mem_singleton.1 hz]; exact ⟨by show a5.1.length ≤ _; omega, by show a0.1.length ≤ _; omega, by show a6.1.length ≤ _; omega⟩)⟩
 refine eM ?_
 refine wn e7 ?_
 refine aF fun u6 o2 => ?_
 refine aG ?_
 refine cS ?_
 refine j3 _ _ ?_
 refine aF fun u7 g2 => ?_
 refine aF fun u8 g3 => ?_
 have hend := At hinv (by omega)
 have hD : cmR ⟨b, false⟩ = (((((a2.1 * 65536) + (a3.1 * 256)) + a7.1), acc), rk) := by unfold cmR; simp only [i6, i9, j2, j7]; rw [hend]
 obtain ⟨g4, c1, rfl, u9, n5⟩ := (j8.own (i := 0) rfl).shape
 unfold maxLen at n5
 obtain ⟨v0, d9, o3, b6⟩ := St.freeze j8 (i := 0) rfl (Nat.le_refl _)
 have b6 : Wrs _ (.slice g4 acc.length c1) acc := b6
 refine aB ?_
 refine dR d9 1 Tryz.underlying168 (eN) ?_
 simp only [pq]
 have hE : uX b = if rk.short = true then 14 else if 0 < rk.rest.length then 4 else oD (⟨(((a2.1 * 65536) + (a3.1 * 256)) + a7.1), acc⟩ : Cm) := by unfold uX; rw [hD]
 refine aL (v := (.int .i64 (oD (⟨(((a2.1 * 65536) + (a3.1 * 256)) + a7.1), acc⟩ : Cm)))) d9 rfl (cP (vs := #[(.agg #[(.int .i64 (((((a2.1 * 65536) + (a3.1 * 256)) + a7.1) : Nat) : Int)), (.slice g4 acc.length c1)])]) (kX rfl) rfl (PR _ _)) (CB _ _ _ (⟨(((a2.1 * 65536) + (a3.1 * 256)) + a7.1), acc⟩ : Cm) (d9).sat ⟨_, _, rfl, b6⟩ hsm) (fun v1 c2 => ?_)
 refine dy ?_
 refine wlK g3 ?_
 refine aM ?_
 refine sk fun v2 g5 => ?_
 refine aC ?_
 refine wn g5 ?_
 refine wp_cond_split rfl (fun hsh => ?_) (fun hsh => ?_)
 refine sk fun v3 g6 => ?_
 refine dr (.agg #[(iI 0), Zn]) (aJ (gP) (by kernel_rfl)) ?_
 simp only [pq]
 refine sW 2 c2 (eN) fun v4 g7 => ?_
 refine dy ?_
 refine wn g6 ?_
 refine aO ?_
 try simp only [xt]
 refine bR (cZ rfl ⟨_, rfl, lR g7 2 Tryz.underlying168 (eN)⟩ (gD rfl)) ?_
 have he : uX b = 14 := by rw [hE, if_pos hsh]
 have hC : sS b = ⟨0, []⟩ := by unfold sS; rw [if_neg (by rw [he]; decide)]
 rw [he, hC]
 exact ⟨_, _, rfl, g7.gr, _, rfl, none, 0, rfl, Sl.nil _ _ _⟩
 refine sk fun v5 d2 => ?_
 refine aC ?_
 by_cases v6 : 0 < rk.rest.length
 refine pR ?_
 refine dy ?_
 refine wn d2 ?_
 refine aK ?_
 refine sk fun v7 g8 => ?_
 refine dr (.agg #[(iI 0), Zn]) (aJ (gP) (by kernel_rfl)) ?_
 simp only [pq]
 refine sW 2 c2 (eN) fun v8 g9 => ?_
 refine dy ?_
 refine wn g8 ?_
 refine aO ?_
 try simp only [xt]
 refine bR (cZ rfl ⟨_, rfl, lR g9 2 Tryz.underlying168 (eN)⟩ (gD rfl)) ?_
 have he : uX b = 4 := by rw [hE, if_neg (by simpa using hsh), if_pos (by omega)]
 have hC : sS b = ⟨0, []⟩ := by unfold sS; rw [if_neg (by rw [he]; decide)]
 rw [he, hC]
 exact ⟨_, _, rfl, g9.gr, _, rfl, none, 0, rfl, Sl.nil _ _ _⟩
 refine lF ?_
 refine dy ?_
 simp only [pq]
 refine wn d2 ?_
 refine aG ?_
 refine sk fun v9 d3 => ?_
 refine dx ?_
 simp only [pq]
 by_cases w0 : (oD (⟨(((a2.1 * 65536) + (a3.1 * 256)) + a7.1), acc⟩ : Cm)) = (0 : Int)
 refine lQ ?_
 refine dy ?_
 refine wn d3 ?_
 refine aG ?_
 refine aI ?_
 refine g2 _ _ ?_
 refine sk fun w1 h0 => ?_
 refine dR c2 1 Tryz.underlying168 (eN) ?_
 simp only [pq]
 refine sW 2 c2 (eN) fun w2 h1 => ?_
 refine dy ?_
 refine wn h0 ?_
 refine aO ?_
 try simp only [xt]
 refine bR (cZ rfl ⟨_, rfl, lR h1 2 Tryz.underlying168 (eN)⟩ (gD rfl)) ?_
 have he : uX b = 0 := by rw [hE, if_neg (by simpa using hsh), if_neg (by omega), show oD (⟨(((a2.1 * 65536) + (a3.1 * 256)) + a7.1), acc⟩ : Cm) = 0 from by omega]
 have hC : sS b = (⟨(((a2.1 * 65536) + (a3.1 * 256)) + a7.1), acc⟩ : Cm) := by unfold sS; rw [if_pos he, hD]
 rw [he, hC]
 exact ⟨_, _, rfl, h1.gr, _, rfl, _, _, rfl, b6⟩
 refine mS ?_
 refine dy ?_
 simp only [pq]
 refine wn d3 ?_
 refine aK ?_
 refine sk fun w4 h2 => ?_
 refine dr (.agg #[(iI 0), Zn]) (aJ (gP) (by kernel_rfl)) ?_
 refine dx ?_
 refine sW 2 c2 (eN) fun w5 h3 => ?_
 simp only [pq]
 refine dy ?_
 refine wn h2 ?_
 refine aO ?_
 try simp only [xt]
 refine bR (cZ rfl ⟨_, rfl, lR h3 2 Tryz.underlying168 (eN)⟩ (gD rfl)) ?_
 have he : uX b = oD (⟨(((a2.1 * 65536) + (a3.1 * 256)) + a7.1), acc⟩ : Cm) := by rw [hE, if_neg (by simpa using hsh), if_neg (by omega)]
 have hC : sS b = ⟨0, []⟩ := by unfold sS; rw [if_neg (by rw [he]; omega)]
 rw [he, hC]
 exact ⟨_, _, rfl, h3.gr, _, rfl, none, 0, rfl, Sl.nil _ _ _⟩
theorem DE (F : Fz) (w : World) (v : Value) (b : By) {e : Int} {m : Cm} (hs : Sat w F) (hb : Bs F v b) (hl : b.length ≤ 4000) (he : uX b = e) (hm : sS b = m) :
    Calls Tryz.prog 98 #[v] w (dO w F (Fb m e)) := by
 subst he; subst hm; exact KA F w v b hs hb hl
theorem EW {m : Cm} (hm : CmOk m) : (eJ m.turn m.writes).length ≤ 594 ∧ 4 ≤ (eJ m.turn m.writes).length := by
 have := QF hm.ok
 have := hm.some.2
 rw [NS, List.length_append, show (hU m.turn m.writes.length).length = 4 from rfl]
 omega
theorem VU {m : Cm} (hm : CmOk m) : uX (eJ m.turn m.writes) = 0 ∧ sS (eJ m.turn m.writes) = m := by
 have ht := hm.turn
 have hs := hm.some
 have h := YQ m.turn m.writes [] hm.ok (by omega) (by omega)
 rw [List.append_nil] at h
 have he : uX (eJ m.turn m.writes) = 0 := by
  unfold uX
  rw [h, if_neg (by simp), if_neg (by simp)]
  exact VT.2 hm
 exact ⟨he, by unfold sS; rw [if_pos he, h]⟩
open Go.ChangeShapes Go.WideShapes Go.ChangeAt Go.RowKit Go.Deep
theorem yR {P : Program} {W : World} : ∀ {l : List (String × DataW Unit)} {ps : List MemPlace}, DataW.LaidVars P W l ps → ∀ (i : Nat) (n : String) (d : DataW Unit), l[i]? = some (n, d) →
    ∃ g t cs fuel p, P.globalNamed n = some g ∧ (P.globals[g]?).map (·.type) = some t ∧ W.var? P n = some cs ∧ DataW.trod (fun _ => ()) P W 0 (fun _ => true) false fuel t cs.toList = some (d, p)
  | [], _, _, i, n, d, hi => by simp at hi
  | (n', d') :: r, ps, h, i, n, d, hi => by
    obtain ⟨g, t, cs, fuel, p, q, h1, h2, h3, h4, h5, h6⟩ := h
    cases i with
    | zero =>
      simp only [List.getElem?_cons_zero, Option.some.injEq, Prod.mk.injEq] at hi
      obtain ⟨rfl, rfl⟩ := hi
      exact ⟨g, t, cs, fuel, p, h1, h2, h3, h4⟩
    | succ i => exact yR h5 i n d (by simpa using hi)
theorem wS {P : Program} {W : World} {l : List (String × DataW Unit)} (h : laidMet P l W) (i : Nat) (name : String) (k : IntKind) (zs : List Int) {g : Nat} {t e : TypeId} {n : Nat}
    (hi : l[i]? = some (name, Lib.tabData k zs))
    (hg : P.globalNamed name = some g) (hty : (P.globals[g]?).map (·.type) = some t) (ht : P.underlying t = some (.array n e)) (he : P.underlying e = some (.int k)) (hce : P.cellsOf e = 1) (hct : P.cellsOf t = n) : Lib.TabIs P W name k zs := by
 obtain ⟨ps, hv, _, _⟩ := h
 obtain ⟨g', t', cs, fuel, p, hg', ht', hvar, hd⟩ := yR hv i name _ hi
 obtain rfl := Option.some.inj (hg.symm.trans hg')
 obtain rfl := Option.some.inj (hty.symm.trans ht')
 unfold Lib.TabIs
 rw [hvar, ← Lib.cells_of_tab ht he hce hct hd]
def gC (a : BitVec 64) : Int := (a.toNat : Int)
theorem uY (a : BitVec 64) : BitVec.ofInt IntKind.u64.bits (gC a) = a := by
 show BitVec.ofInt 64 (a.toNat : Int) = a
 simp
theorem xW (a : BitVec 64) : IntKind.u64.wrap ((BitVec.toNat a : Nat) : Int) = gC a := by
 have := a.isLt
 unfold gC IntKind.wrap
 simp only [IntKind.signed, Bool.false_and, Bool.false_eq_true, if_false, IntKind.bits]
 omega
theorem KB (a b : BitVec 64) : bits .xor .u64 (gC a) (gC b) = gC (a ^^^ b) := by
 unfold bits
 simp only [uY]
 exact xW (a ^^^ b)
theorem Au (a b : BitVec 64) : bits .or .u64 (gC a) (gC b) = gC (a ||| b) := by
 unfold bits
 simp only [uY]
 exact xW (a ||| b)
theorem VV (a b : BitVec 64) : bits .and .u64 (gC a) (gC b) = gC (a &&& b) := by
 unfold bits
 simp only [uY]
 exact xW (a &&& b)
theorem KC (z : Int) : IntKind.u64.wrap z = z % 18446744073709551616 := by
 unfold IntKind.wrap
 simp only [IntKind.signed, Bool.false_and, Bool.false_eq_true, if_false]
 rfl
theorem KD (a : BitVec 64) (n : Nat) : IntKind.u64.wrap (gC a * 2 ^ n) = gC (a <<< n) := by
 rw [KC]
 unfold gC
 rw [BitVec.toNat_shiftLeft, Nat.shiftLeft_eq, Int.natCast_emod, Int.natCast_mul, Int.natCast_pow]
 rfl
theorem KE (a : BitVec 64) (n : Nat) : gC a / 2 ^ n = gC (a >>> n) := by
 unfold gC
 simp only [BitVec.toNat_ushiftRight, Nat.shiftRight_eq_div_pow]
 push_cast
 rfl
theorem EX (w : World) (x : BitVec 64) (n : Nat) (h1 : 1 ≤ n) (h2 : n ≤ 63) :
    Calls Tryz.prog 148 #[.int .u64 (gC x), .int .i64 n] w (cY w (.int .u64 (gC (oL x n)))) := by
 go_enter Tryz.func148, Tryz.ntmps148
 go_wp2_with fail
 go_quiet (fail)
 go_wp2_with fail
 go_ret
 rw [KD, KE, Au]
 exact ⟨rfl, ⟨rfl, rfl, rfl, Nat.le_refl _, fun _ _ => rfl⟩⟩
theorem fH (w : World) : (isAgg 215).run Tryz.prog w = .ok false w := by kernel_rfl
theorem qD : (Tryz.prog.info? 215).map (·.size) = some 1 := by kernel_rfl
theorem cM (w : World) : (sizeOf 215).run Tryz.prog w = .ok 1 w := by kernel_rfl
theorem VW : (Tryz.prog.info? 233).map (·.size) = some 5 := by kernel_rfl
theorem KF (w : World) : (zeroValue 233).run Tryz.prog w = .ok (.agg #[.int .u64 0, .int .u64 0, .int .u64 0, .int .u64 0, .int .u64 0]) w := by kernel_rfl
abbrev aR (a : BitVec 64) : Value := .int .u64 (gC a)
theorem KG (n : Nat) (f : Nat → BitVec 64) (i : Nat) (h : i < n) : at0 (qL n f) i = f i := by simp [at0, qL, List.getD, h]
theorem oF {n : Nat} {f g : Nat → BitVec 64} (h : ∀ i, i < n → f i = g i) : qL n f = qL n g := List.map_congr_left (fun i hi => h i (List.mem_range.1 hi))
theorem KH (S : List (BitVec 64)) : qL S.length (at0 S) = S := by
 apply List.ext_getElem (by simp [qL])
 intro i h1 h2
 simp [qL, at0, List.getD, h2]
theorem CC (n : Nat) (f : Nat → BitVec 64) (k : Nat) (v : BitVec 64) : (qL n f).set k v = qL n fun i => if i = k then v else f i := by
 apply List.ext_getElem (by simp [qL])
 intro i h1 h2
 simp only [qL, List.getElem_set, List.getElem_map, List.getElem_range]
 by_cases h : k = i
 ·subst h; simp
 ·rw [if_neg h, if_neg (fun e => h e.symm)]
theorem VX : ∀ i, i < 24 → lI i < 25 := by decide
theorem EY : ∀ i, i < 24 → 1 ≤ mO i ∧ mO i ≤ 63 := by decide
def Tabs (w : World) : Prop := (∀ i, i < 24 → w.cell? ⟨2, i, none⟩ = some (.int .i64 (lI i))) ∧ (∀ i, i < 24 → w.cell? ⟨3, i, none⟩ = some (.int .i64 (mO i))) ∧ ∀ i, i < 24 → w.cell? ⟨4, i, none⟩ = some (.int .u64 (gC (xJ i)))
theorem Tabs.lt {w : World} (h : Tabs w) : 2 < w.heap.size ∧ 3 < w.heap.size ∧ 4 < w.heap.size :=
  ⟨World.block_lt_of_cell? w ⟨2, 0, none⟩ (h.1 0 (by decide)), World.block_lt_of_cell? w ⟨3, 0, none⟩ (h.2.1 0 (by decide)), World.block_lt_of_cell? w ⟨4, 0, none⟩ (h.2.2 0 (by decide))⟩
theorem Tabs.below {w w' : World} {N : Nat} (h : Tabs w) (hb : Below N w w') (h1 : 2 < N) (h2 : 3 < N) (h3 : 4 < N) : Tabs w' :=
  ⟨fun i hi => by rw [hb.cell (p := ⟨2, i, none⟩) h1]; exact h.1 i hi, fun i hi => by rw [hb.cell (p := ⟨3, i, none⟩) h2]; exact h.2.1 i hi, fun i hi => by rw [hb.cell (p := ⟨4, i, none⟩) h3]; exact h.2.2 i hi⟩
def yS : Array Value := (vO.map fun i : Nat => Value.int .i64 (i : Int)).toArray
theorem RY {w : World} (h : Tabs w) : (Instr.loadAt 235 (.pointer (some ⟨2, 0, none⟩))).run Tryz.prog w = .ok (.agg yS) w := by
 unfold yS
 refine run_loadAt_mid (P := Tryz.prog) w 2 0 235 (vO.map fun i : Nat => Value.int .i64 (i : Int)) (.array 24 3) (fun j v hj => ?_) (by kernel_rfl) rfl (by kernel_rfl)
 have hj' : j < 24 := by
  have := (List.getElem?_eq_some_iff.1 hj).1
  simpa [vO] using this
 rw [Nat.zero_add, h.1 j hj', ← hj]
 unfold lI
 rw [List.getElem?_map, List.getD_eq_getElem?_getD]
 have : vO[j]? = some (vO[j]'(by simpa [vO] using hj')) := List.getElem?_eq_getElem _
 rw [this]
 rfl
theorem Tabs.at {w w' : World} (h : Tabs w) (hb : Below w.heap.size w w') : Tabs w' := h.below hb h.lt.1 h.lt.2.1 h.lt.2.2
theorem Av {k : Nat} (h : k < 24) : yS[k]? = some (.int .i64 ((lI k : Nat) : Int)) := by
 unfold yS lI
 have hk : k < vO.length := by simpa [vO] using h
 simp [List.getElem?_map, List.getElem?_eq_getElem hk, List.getD_eq_getElem?_getD]
theorem fI {X : List (BitVec 64)} {i : Nat} (h : i < X.length) : (X.map aR)[i]? = some (aR (at0 X i)) := by
 simp [at0, List.getElem?_map, List.getElem?_eq_getElem h, List.getD_eq_getElem?_getD]
theorem nK {X : List (BitVec 64)} {j : Nat} {x : BitVec 64} (h : j < X.length) : bQ (X.map aR) j [aR x] = (X.set j x).map aR := by
 unfold bQ
 rw [List.map_set, List.set_eq_take_append_cons_drop, if_pos (by simpa using h)]
 simp
def cL (S : List (BitVec 64)) (k : Nat) : List (BitVec 64) := qL 5 fun x => if x < k then TR S x else 0
theorem HT (S : List (BitVec 64)) (k : Nat) : (cL S k).length = 5 := AN _ _
theorem Aw (S : List (BitVec 64)) {k : Nat} (h : k < 5) : (cL S k).set k (TR S k) = cL S (k + 1) := by
 unfold cL
 rw [CC]
 refine oF fun i hi => ?_
 by_cases e : i = k
 subst e; rw [if_pos rfl, if_pos (by omega)]
 rw [if_neg e]
 by_cases e2 : i < k
 rw [if_pos e2, if_pos (by omega)]
 rw [if_neg e2, if_neg (by omega)]
theorem Ax (S : List (BitVec 64)) : cL S 0 = List.replicate 5 0 := by
 unfold cL qL; rfl
theorem Dw (S : List (BitVec 64)) : cL S 5 = (List.range 5).map (TR S) := by
 unfold cL
 exact oF fun i hi => if_pos hi
theorem zW (S C : List (BitVec 64)) (k : Nat) : (thL S C k).length = 25 := AN _ _
theorem VY {S C : List (BitVec 64)} (h : S.length = 25) : thL S C 0 = S := by
 unfold thL
 rw [oF (g := at0 S) (fun i hi => if_neg (by omega))]
 have := KH S
 rwa [h] at this
theorem Dx {S C : List (BitVec 64)} {i : Nat} (h : i < 25) : at0 (thL S C i) i = at0 S i := by
 unfold thL
 rw [KG _ _ _ h, if_neg (by omega)]
theorem VZ (S C : List (BitVec 64)) {i : Nat} (h : i < 25) : (thL S C i).set i (Cs S C i) = thL S C (i + 1) := by
 unfold thL
 rw [CC]
 refine oF fun j hj => ?_
 by_cases e : j = i
 subst e; rw [if_pos rfl, if_pos (by omega)]
 rw [if_neg e]
 by_cases e2 : j < i
 rw [if_pos e2, if_pos (by omega)]
 rw [if_neg e2, if_neg (by omega)]
theorem sU {A : List (BitVec 64)} (h : A.length = 25) : ∀ k, (qM A k).1.length = 25
  | 0 => h
  | k + 1 => by simp [qM, sU h k]
def jY (B : List (BitVec 64)) (k : Nat) : List (BitVec 64) := qL 25 fun i => if i < k then IK B i else at0 B i
theorem qE (B : List (BitVec 64)) (k : Nat) : (jY B k).length = 25 := AN _ _
theorem RZ {B : List (BitVec 64)} (h : B.length = 25) : jY B 0 = B := by
 unfold jY
 rw [oF (g := at0 B) (fun i hi => if_neg (by omega))]
 have := KH B
 rwa [h] at this
theorem wT {B : List (BitVec 64)} {k i : Nat} (h : k ≤ i) (hi : i < 25) : at0 (jY B k) i = at0 B i := by
 unfold jY
 rw [KG _ _ _ hi, if_neg (by omega)]
theorem SA (B : List (BitVec 64)) {i : Nat} (h : i < 25) : (jY B i).set i (IK B i) = jY B (i + 1) := by
 unfold jY
 rw [CC]
 refine oF fun j hj => ?_
 by_cases e : j = i
 subst e; rw [if_pos rfl, if_pos (by omega)]
 rw [if_neg e]
 by_cases e2 : j < i
 rw [if_pos e2, if_pos (by omega)]
 rw [if_neg e2, if_neg (by omega)]
theorem WA (B : List (BitVec 64)) : jY B 25 = YO B := by
 unfold jY YO
 exact oF fun i hi => if_pos hi
section
variable {P : Program} {ρ : Operand → Value} {w : World} {d : Option Tmp} {t X Y E : TypeId} {n : Nat} {pos : String} {after : Array Edge} {guard : Option (Nat × Bool)} {x y : Operand}
theorem Dy {cs : Array Value} {i : Nat} {v : Value} (hX : P.underlying X = some (.array n E)) (hs : (sizeOf E).run P w = .ok 1 w) (hx : ρ x = .agg cs) (hy : ρ y = .int .i64 i) (hi : i < n) (hb : (isAgg E).run P w = .ok false w) (hv : cs[i]? = some v) :
    (execOp ρ ⟨d, .index X x y, t, pos, after, guard⟩).run P w = .ok (.value v) w := by
 have h1 : (0 : Int) ≤ (i : Int) ∧ (i : Int) < (n : Int) := by omega
 simp [execOp, hx, hy, Instr.index, part, Sem.run_bind, run_underlying hX w, asIntOf, hs, h1, hb, hv, hi]
theorem fQ {b i : Nat} (hX : P.underlying X = some (.array n E)) (hs : (sizeOf E).run P w = .ok 1 w) (hx : ρ x = .pointer (some ⟨b, 0, none⟩)) (hy : ρ y = .int .i64 i) (hi : i < n) :
    (execOp ρ ⟨d, .indexAddr X x y, t, pos, after, guard⟩).run P w = .ok (.value (.pointer (some ⟨b, i, none⟩))) w := by
 have hadd : (⟨b, 0, none⟩ : Addr).add (i * 1) = ⟨b, i, none⟩ := by rw [Addr.add_mid]; simp
 have hlt : (0 : Int) ≤ (i : Int) ∧ (i : Int) < (n : Int) := by omega
 simp only [Nat.mul_one] at hadd
 simp [execOp, hx, hy, Instr.indexAt, Instr.sureAddr, asIntOf, Sem.run_bind, Sem.run_pure, Result.andThen_ok, run_underlying hX w, hs, hadd, hlt, hi]
theorem nF {a b : BitVec 64} (hx : ρ x = aR a) (hy : ρ y = aR b) : (execOp ρ ⟨d, .binOp .xor X x y Y, t, pos, after, guard⟩).run P w = .ok (.value (aR (a ^^^ b))) w := by
 refine iW hx hy ?_
 rw [dP _ (by simp)]
 show Result.ok (Value.int .u64 (bits .xor .u64 (gC a) (gC b))) w = _
 rw [KB]
theorem Ay {a b : BitVec 64} (hx : ρ x = aR a) (hy : ρ y = aR b) : (execOp ρ ⟨d, .binOp .and X x y Y, t, pos, after, guard⟩).run P w = .ok (.value (aR (a &&& b))) w := by
 refine iW hx hy ?_
 rw [dP _ (by simp)]
 show Result.ok (Value.int .u64 (bits .and .u64 (gC a) (gC b))) w = _
 rw [VV]
theorem Az {a : BitVec 64} (hx : ρ x = aR a) : (execOp ρ ⟨d, .unOp .xor X x, t, pos, after, guard⟩).run P w = .ok (.value (aR (~~~ a))) w := by
 have e : (18446744073709551615 : Int) = gC (BitVec.allOnes 64) := by decide
 have h : bits .xor .u64 (18446744073709551615 : Int) (gC a) = gC (~~~ a) := by rw [e, KB, BitVec.allOnes_xor]
 simp only [execOp, hx]
 show Result.ok (Next.value (.int .u64 (bits .xor .u64 (18446744073709551615 : Int) (gC a)))) w = _
 rw [h]
theorem oZ {m n : Nat} (hx : ρ x = .int .i64 (m : Int)) (hy : ρ y = .int .i64 (n : Int)) (hn : 0 < n) (hm : m ≤ 9223372036854775807) : (execOp ρ ⟨d, .binOp .rem X x y Y, t, pos, after, guard⟩).run P w = .ok (.value (.int .i64 ((m % n : Nat) : Int))) w := by
 refine iW hx hy ?_
 rw [dP _ (by simp)]
 show (Op.intDiv .rem .i64 m n).run P w = _
 unfold Op.intDiv
 rw [if_neg (by omega)]
 show Result.ok (Value.int .i64 (Int.tmod (m : Int) (n : Int))) w = _
 rw [Int.tmod_eq_emod_of_nonneg (by omega)]
 rfl
end
end Go.Proofs.YtilgpdpooildcaaGreatDoor
