/- Rules, plain laws and walks: WQ4 B3 TD P15 SV1 ME SV2 C1 SV3 SV4 -/
import Derived.Test.YtilgpdpooildcaaGreatDoorEA10
import Derived.Test.YtilgpdpooildcaaGreatDoorEA9
import Derived.Laws.Pointers
namespace Go.Proofs.YtilgpdpooildcaaGreatDoor
set_option maxHeartbeats 8000000
open Go.RowKit
set_option maxRecDepth 100000
set_option linter.unusedVariables false
set_option linter.unusedSimpArgs false
theorem Ao {k : Nat} {r : Rq} (ok : RqOk k r) (hk : k = 2 ∨ k = 3 ∨ k = 4 ∨ k = 5) : (1 ≤ r.name.length ∧ r.name.length ≤ 8) ∧ (1 ≤ r.key.length ∧ r.key.length ≤ 16) ∧ r.value.length ≤ 32 ∧ (k ≠ 3 → r.last = []) ∧ (k = 3 → 1 ≤ r.last.length ∧ r.last.length ≤ 16) ∧ (k ≠ 4 → r.value = []) := by
 obtain ⟨a1, a2, a3, a4, a5, a6, a7, a8⟩ := rI (h := bJ k) ok.fits
 have e0 : ∀ {l : By}, l.length = 0 → l = [] := fun h => List.eq_nil_of_length_eq_zero h
 rcases hk with rfl | rfl | rfl | rfl
 ·exact ⟨a1 rfl, a2 rfl, a4, fun _ => e0 (a7 rfl), fun h => by omega, fun _ => e0 (a8 rfl)⟩
 ·exact ⟨a1 rfl, a2 rfl, a4, fun h => absurd rfl h, fun _ => a3 rfl, fun _ => e0 (a8 rfl)⟩
 ·exact ⟨a1 rfl, a2 rfl, a4, fun _ => e0 (a7 rfl), fun h => by omega, fun h => absurd rfl h⟩
 ·exact ⟨a1 rfl, a2 rfl, a4, fun _ => e0 (a7 rfl), fun h => by omega, fun _ => e0 (a8 rfl)⟩
theorem UD {k : Nat} {r : Rq} {b : Bool} (ok : RqOk k r) (hk : (k = 2 ∧ b = false) ∨ (k = 3 ∧ b = true)) : RdOk ⟨r.name, r.key, b, r.last⟩ := by
 obtain ⟨h1, h2, h3, h4, h5, h6⟩ := Ao ok (by omega)
 rcases hk with ⟨hk, rfl⟩ | ⟨hk, rfl⟩
 ·exact ⟨h1, h2, h4 (by omega)⟩
 ·exact ⟨h1, h2, h5 hk⟩
theorem Ap {k : Nat} {r : Rq} {b : Bool} (ok : RqOk k r) (hk : (k = 4 ∧ b = false) ∨ (k = 5 ∧ b = true)) : WrOk ⟨r.name, r.key, b, r.value⟩ := by
 obtain ⟨h1, h2, h3, h4, h5, h6⟩ := Ao ok (by omega)
 rcases hk with ⟨hk, rfl⟩ | ⟨hk, rfl⟩
 ·exact ⟨h1, h2.1, h2.2, h3, fun h => by cases h⟩
 ·exact ⟨h1, h2.1, h2.2, h3, fun _ => h6 (by omega)⟩
theorem OF (r : Rd) : jL jW r = some ⟨0, [r], []⟩ := by simp [jL, jW]
theorem IH (w : Wr) : gR jW w = some ⟨0, [], [w]⟩ := by simp [gR, jW, AW]
def RdR (p : Rd) (e : Int) (F : Fz) (u : Value) : Prop := ∃ x, u = .tuple #[x, .int .i64 e] ∧ RdV F x p
def WrR (p : Wr) (e : Int) (F : Fz) (u : Value) : Prop := ∃ x, u = .tuple #[x, .int .i64 e] ∧ WrV F x p
theorem LC (F : Fz) (w : World) (v : Value) (k : Nat) (r : Rq) {b : Bool} (hs : Sat w F) (hh : Has w) (hv : BG F v k r.name r.key r.last r.value) (ok : RqOk k r) (hb : (k = 2 ∧ b = false) ∨ (k = 3 ∧ b = true)) :
    Calls Tryz.prog 105 #[v] w (dF w F (RdR ⟨r.name, r.key, b, r.last⟩ 0)) := by
 have hk := ok.kind
 obtain ⟨_, _, _, _, rfl, h0, h1, h2, h3⟩ := hv
 obtain ⟨x0, y0, rfl, _⟩ := h0.shape
 obtain ⟨x1, y1, rfl, _⟩ := h1.shape
 obtain ⟨x2, y2, rfl, _⟩ := h2.shape
 obtain ⟨x3, y3, rfl, _⟩ := h3.shape
 have S := St.start hs
 go_enter Tryz.func105, Tryz.ntmps105
 refine sk fun K1 hK1 => ?_
 refine bH S (v := fun n => .pointer (aA n 0)) rfl (bX (v := (.agg #[(nI k), (.slice x0 r.name.length y0), (.slice x1 r.key.length y1), (.slice x2 r.last.length y2), (.slice x3 r.value.length y3)])) rfl) (fun n2 w3 S4 => ?_)
 refine sA S4 (tQ _) fun n5 w6 S7 => ?_
 refine dy ?_
 refine wn hK1 ?_
 refine aE fun K8 hK8 => ?_
 refine sk fun K9 hK9 => ?_
 refine dR S7 1 Tryz.underlying27 (bG) ?_
 simp only [pq]
 refine aJ (v := (iI 0)) S7 rfl (fn1 (JW _ _)) (mX _ _ _ k r (hh.below S7.gr.below) ⟨_, _, _, _, rfl, h0, h1, h2, h3⟩ ok) (fun h5 a4 => ?_)
 refine dy ?_
 refine wn hK9 ?_
 refine sk fun h6 a5 => ?_
 refine dx ?_
 refine dr bF (cH (m := (0 : Int)) (n := (0 : Int)) (b := false) rfl rfl (bne_eq_false_iff_eq.2 (rfl))) ?_
 simp only [pq]
 refine wn a5 ?_
 refine aF ?_
 refine aH ?_
 refine hK8 _ _ ?_
 refine aE fun h7 c0 => ?_
 refine sk fun h8 a6 => ?_
 refine aC ?_
 refine wn a6 ?_
 refine aN ?_
 refine aE fun h9 a0 => ?_
 refine aE fun i0 a1 => ?_
 rcases hb with ⟨hk, rfl⟩ | ⟨hk, rfl⟩
 refine aB ?_
 refine iA ?_
 refine dy ?_
 simp only [pq]
 refine wlK a1 ?_
 refine aI ?_
 refine aH ?_
 refine a0 _ _ ?_
 refine aI ?_
 refine sk fun i1 a7 => ?_
 refine dr (.agg #[(iI 0), Zn, Zn]) (aK (hU) (by kernel_rfl)) ?_
 refine aC ?_
 refine gH ?_
 refine aC ?_
 refine dr (.agg #[(.slice x0 r.name.length y0), (.slice x1 r.key.length y1), bF, (.slice x2 r.last.length y2)]) (aK (qW rfl rfl rfl rfl) (by kernel_rfl)) ?_
 refine aR a4 rfl (fn2 (BW _ _)) (pF _ _ _ _ jW (⟨r.name, r.key, false, r.last⟩ : Rd) (⟨0, [(⟨r.name, r.key, false, r.last⟩ : Rd)], []⟩ : Tx) (a4).sat (TxV.nil _) ⟨_, _, _, _, _, _, rfl, h0, h1, h2⟩ CD (UD ok (Or.inl ⟨hk, rfl⟩)) (OF _)) ?_
 intro i2 i3 i4 c1 c2 c3
 obtain ⟨_, rfl, c4⟩ := c3
 obtain ⟨c5, c6, c7, c8, rfl, c9, i5⟩ := c4
 refine aC ?_
 refine sA c1 (gT _) fun i6 i7 d0 => ?_
 refine sW 0 d0 (bB) fun i8 a2 => ?_
 refine dy ?_
 simp only [pq]
 refine wn a7 ?_
 refine aE fun i9 a8 => ?_
 refine sk fun j0 a9 => ?_
 refine dx ?_
 refine dr bF (cH (m := (0 : Int)) (n := (0 : Int)) (b := false) rfl rfl (bne_eq_false_iff_eq.2 (rfl))) ?_
 refine wn a9 ?_
 refine aF ?_
 refine aH ?_
 refine a8 _ _ ?_
 refine aE fun j1 b0 => ?_
 have hp : ((⟨0, [(⟨r.name, r.key, false, r.last⟩ : Rd)], []⟩ : Tx).reads)[0]? = some (⟨r.name, r.key, false, r.last⟩ : Rd) := rfl
 obtain ⟨d1, d2, b1, d3, d4, d5, d6, d7, d8, d9, e0, e1, e2, e3, e4, e5⟩ := Rds.get c9 hp
 refine aB ?_
 refine aC ?_
 refine dr (pP d1 (d2 + 0 * 4)) (bN (i := 0) (sz := 4) Tryz.underlying139 (jS _) rfl b1 rfl (by show 0 < 1; omega) rfl) ?_
 simp only [pq]
 refine dr _ (aD rfl (cV Tryz.underlying179 rfl (dS) (eY (St.fz a2 d9) (St.fz a2 e0) (St.fz a2 e1) (St.fz a2 e2)))) ?_
 refine sW 1 a2 (dS) fun j2 b7 => ?_
 refine dy ?_
 simp only [pq]
 refine wlK b0 ?_
 refine aO ?_
 try simp only [xt]
 refine bR (dM rfl ⟨_, rfl, lR b7 1 Tryz.underlying179 (dS)⟩ (gD rfl)) ?_
 exact ⟨_, _, rfl, b7.gr, _, rfl, _, _, _, _, _, _, rfl, e3, e4, e5⟩
 refine aB ?_
 refine gH ?_
 refine dy ?_
 refine wlK a1 ?_
 refine aF ?_
 refine aB ?_
 refine iA ?_
 refine dy ?_
 simp only [pq]
 refine wlK a0 ?_
 refine aI ?_
 refine sk fun j3 b2 => ?_
 refine dr (.agg #[(iI 0), Zn, Zn]) (aK (hU) (by kernel_rfl)) ?_
 refine aC ?_
 refine iA ?_
 refine aC ?_
 refine dr (.agg #[(.slice x0 r.name.length y0), (.slice x1 r.key.length y1), bT, (.slice x2 r.last.length y2)]) (aK (qW rfl rfl rfl rfl) (by kernel_rfl)) ?_
 refine aR a4 rfl (fn2 (BW _ _)) (pF _ _ _ _ jW (⟨r.name, r.key, true, r.last⟩ : Rd) (⟨0, [(⟨r.name, r.key, true, r.last⟩ : Rd)], []⟩ : Tx) (a4).sat (TxV.nil _) ⟨_, _, _, _, _, _, rfl, h0, h1, h2⟩ CD (UD ok (Or.inr ⟨hk, rfl⟩)) (OF _)) ?_
 intro j4 j5 j6 e6 e7 e8
 obtain ⟨_, rfl, e9⟩ := e8
 obtain ⟨f0, f1, f2, f3, rfl, f4, j7⟩ := e9
 refine aC ?_
 refine sA e6 (gT _) fun j8 j9 f5 => ?_
 refine sW 0 f5 (bB) fun k0 a3 => ?_
 refine dy ?_
 simp only [pq]
 refine wn b2 ?_
 refine aE fun k1 b3 => ?_
 refine sk fun k2 b4 => ?_
 refine dx ?_
 refine dr bF (cH (m := (0 : Int)) (n := (0 : Int)) (b := false) rfl rfl (bne_eq_false_iff_eq.2 (rfl))) ?_
 refine wn b4 ?_
 refine aF ?_
 refine aH ?_
 refine b3 _ _ ?_
 refine aE fun k3 b5 => ?_
 have hp : ((⟨0, [(⟨r.name, r.key, true, r.last⟩ : Rd)], []⟩ : Tx).reads)[0]? = some (⟨r.name, r.key, true, r.last⟩ : Rd) := rfl
 obtain ⟨f6, f7, b6, f8, f9, g0, g1, g2, g3, g4, g5, g6, g7, g8, g9, h4⟩ := Rds.get f4 hp
 refine aB ?_
 refine aC ?_
 refine dr (pP f6 (f7 + 0 * 4)) (bN (i := 0) (sz := 4) Tryz.underlying139 (jS _) rfl b6 rfl (by show 0 < 1; omega) rfl) ?_
 simp only [pq]
 refine dr _ (aD rfl (cV Tryz.underlying179 rfl (dS) (eY (St.fz a3 g4) (St.fz a3 g5) (St.fz a3 g6) (St.fz a3 g7)))) ?_
 refine sW 1 a3 (dS) fun k4 b9 => ?_
 refine dy ?_
 simp only [pq]
 refine wlK b5 ?_
 refine aO ?_
 try simp only [xt]
 refine bR (dM rfl ⟨_, rfl, lR b9 1 Tryz.underlying179 (dS)⟩ (gD rfl)) ?_
 exact ⟨_, _, rfl, b9.gr, _, rfl, _, _, _, _, _, _, rfl, g8, g9, h4⟩
theorem GG (F : Fz) (w : World) (v : Value) (k : Nat) (r : Rq) {b : Bool} (hs : Sat w F) (hh : Has w) (hv : BG F v k r.name r.key r.last r.value) (ok : RqOk k r) (hb : (k = 4 ∧ b = false) ∨ (k = 5 ∧ b = true)) :
    Calls Tryz.prog 93 #[v] w (dF w F (WrR ⟨r.name, r.key, b, r.value⟩ 0)) := by
 have hk := ok.kind
 obtain ⟨_, _, _, _, rfl, h0, h1, h2, h3⟩ := hv
 obtain ⟨x0, y0, rfl, _⟩ := h0.shape
 obtain ⟨x1, y1, rfl, _⟩ := h1.shape
 obtain ⟨x2, y2, rfl, _⟩ := h2.shape
 obtain ⟨x3, y3, rfl, _⟩ := h3.shape
 have S := St.start hs
 go_enter Tryz.func93, Tryz.ntmps93
 refine sk fun K1 hK1 => ?_
 refine bH S (v := fun n => .pointer (aA n 0)) rfl (bX (v := (.agg #[(nI k), (.slice x0 r.name.length y0), (.slice x1 r.key.length y1), (.slice x2 r.last.length y2), (.slice x3 r.value.length y3)])) rfl) (fun n2 w3 S4 => ?_)
 refine sA S4 (kY _) fun n5 w6 S7 => ?_
 refine dy ?_
 refine wn hK1 ?_
 refine aE fun K8 hK8 => ?_
 refine sk fun K9 hK9 => ?_
 refine dR S7 1 Tryz.underlying27 (bG) ?_
 simp only [pq]
 refine aJ (v := (iI 0)) S7 rfl (fn1 (JW _ _)) (mX _ _ _ k r (hh.below S7.gr.below) ⟨_, _, _, _, rfl, h0, h1, h2, h3⟩ ok) (fun h5 a4 => ?_)
 refine dy ?_
 refine wn hK9 ?_
 refine sk fun h6 a5 => ?_
 refine dx ?_
 refine dr bF (cH (m := (0 : Int)) (n := (0 : Int)) (b := false) rfl rfl (bne_eq_false_iff_eq.2 (rfl))) ?_
 simp only [pq]
 refine wn a5 ?_
 refine aF ?_
 refine aH ?_
 refine hK8 _ _ ?_
 refine aE fun h7 c0 => ?_
 refine sk fun h8 a6 => ?_
 refine aC ?_
 refine wn a6 ?_
 refine aN ?_
 refine aE fun h9 a0 => ?_
 refine aE fun i0 a1 => ?_
 rcases hb with ⟨hk, rfl⟩ | ⟨hk, rfl⟩
 refine aB ?_
 refine iA ?_
 refine dy ?_
 simp only [pq]
 refine wlK a1 ?_
 refine aI ?_
 refine aH ?_
 refine a0 _ _ ?_
 refine aI ?_
 refine sk fun i1 a7 => ?_
 refine dr (.agg #[(iI 0), Zn, Zn]) (aK (hU) (by kernel_rfl)) ?_
 refine aC ?_
 refine gH ?_
 refine aC ?_
 refine dr (.agg #[(.slice x0 r.name.length y0), (.slice x1 r.key.length y1), bF, (.slice x3 r.value.length y3)]) (aK (qW rfl rfl rfl rfl) (by kernel_rfl)) ?_
 refine aR a4 rfl (fn2 (KB _ _)) (nT _ _ _ _ jW (⟨r.name, r.key, false, r.value⟩ : Wr) (⟨0, [], [(⟨r.name, r.key, false, r.value⟩ : Wr)]⟩ : Tx) (a4).sat (TxV.nil _) ⟨_, _, _, _, _, _, rfl, h0, h1, h3⟩ CD (Ap ok (Or.inl ⟨hk, rfl⟩)) (IH _)) ?_
 intro i2 i3 i4 c1 c2 c3
 obtain ⟨_, rfl, c4⟩ := c3
 obtain ⟨c5, c6, c7, c8, rfl, i5, c9⟩ := c4
 refine aC ?_
 refine sA c1 (gT _) fun i6 i7 d0 => ?_
 refine sW 0 d0 (bB) fun i8 a2 => ?_
 refine dy ?_
 simp only [pq]
 refine wn a7 ?_
 refine aE fun i9 a8 => ?_
 refine sk fun j0 a9 => ?_
 refine dx ?_
 refine dr bF (cH (m := (0 : Int)) (n := (0 : Int)) (b := false) rfl rfl (bne_eq_false_iff_eq.2 (rfl))) ?_
 refine wn a9 ?_
 refine aF ?_
 refine aH ?_
 refine a8 _ _ ?_
 refine aE fun j1 b0 => ?_
 have hp : ((⟨0, [], [(⟨r.name, r.key, false, r.value⟩ : Wr)]⟩ : Tx).writes)[0]? = some (⟨r.name, r.key, false, r.value⟩ : Wr) := rfl
 obtain ⟨d1, d2, b1, d3, d4, d5, d6, d7, d8, d9, e0, e1, e2, e3, e4, e5⟩ := Wrs.get c9 hp
 refine aB ?_
 refine aC ?_
 refine dr (pP d1 (d2 + 0 * 4)) (bN (i := 0) (sz := 4) Tryz.underlying40 (fL _) rfl b1 rfl (by show 0 < 1; omega) rfl) ?_
 simp only [pq]
 refine dr _ (aD rfl (cV Tryz.underlying39 rfl (bY) (eY (St.fz a2 d9) (St.fz a2 e0) (St.fz a2 e1) (St.fz a2 e2)))) ?_
 refine sW 1 a2 (bY) fun j2 b7 => ?_
 refine dy ?_
 simp only [pq]
 refine wlK b0 ?_
 refine aO ?_
 try simp only [xt]
 refine bR (dM rfl ⟨_, rfl, lR b7 1 Tryz.underlying39 (bY)⟩ (gD rfl)) ?_
 exact ⟨_, _, rfl, b7.gr, _, rfl, _, _, _, _, _, _, rfl, e3, e4, e5⟩
 refine aB ?_
 refine gH ?_
 refine dy ?_
 refine wlK a1 ?_
 refine aF ?_
 refine aB ?_
 refine iA ?_
 refine dy ?_
 simp only [pq]
 refine wlK a0 ?_
 refine aI ?_
 refine sk fun j3 b2 => ?_
 refine dr (.agg #[(iI 0), Zn, Zn]) (aK (hU) (by kernel_rfl)) ?_
 refine aC ?_
 refine iA ?_
 refine aC ?_
 refine dr (.agg #[(.slice x0 r.name.length y0), (.slice x1 r.key.length y1), bT, (.slice x3 r.value.length y3)]) (aK (qW rfl rfl rfl rfl) (by kernel_rfl)) ?_
 refine aR a4 rfl (fn2 (KB _ _)) (nT _ _ _ _ jW (⟨r.name, r.key, true, r.value⟩ : Wr) (⟨0, [], [(⟨r.name, r.key, true, r.value⟩ : Wr)]⟩ : Tx) (a4).sat (TxV.nil _) ⟨_, _, _, _, _, _, rfl, h0, h1, h3⟩ CD (Ap ok (Or.inr ⟨hk, rfl⟩)) (IH _)) ?_
 intro j4 j5 j6 e6 e7 e8
 obtain ⟨_, rfl, e9⟩ := e8
 obtain ⟨f0, f1, f2, f3, rfl, j7, f4⟩ := e9
 refine aC ?_
 refine sA e6 (gT _) fun j8 j9 f5 => ?_
 refine sW 0 f5 (bB) fun k0 a3 => ?_
 refine dy ?_
 simp only [pq]
 refine wn b2 ?_
 refine aE fun k1 b3 => ?_
 refine sk fun k2 b4 => ?_
 refine dx ?_
 refine dr bF (cH (m := (0 : Int)) (n := (0 : Int)) (b := false) rfl rfl (bne_eq_false_iff_eq.2 (rfl))) ?_
 refine wn b4 ?_
 refine aF ?_
 refine aH ?_
 refine b3 _ _ ?_
 refine aE fun k3 b5 => ?_
 have hp : ((⟨0, [], [(⟨r.name, r.key, true, r.value⟩ : Wr)]⟩ : Tx).writes)[0]? = some (⟨r.name, r.key, true, r.value⟩ : Wr) := rfl
 obtain ⟨f6, f7, b6, f8, f9, g0, g1, g2, g3, g4, g5, g6, g7, g8, g9, h4⟩ := Wrs.get f4 hp
 refine aB ?_
 refine aC ?_
 refine dr (pP f6 (f7 + 0 * 4)) (bN (i := 0) (sz := 4) Tryz.underlying40 (fL _) rfl b6 rfl (by show 0 < 1; omega) rfl) ?_
 simp only [pq]
 refine dr _ (aD rfl (cV Tryz.underlying39 rfl (bY) (eY (St.fz a3 g4) (St.fz a3 g5) (St.fz a3 g6) (St.fz a3 g7)))) ?_
 refine sW 1 a3 (bY) fun k4 b9 => ?_
 refine dy ?_
 simp only [pq]
 refine wlK b5 ?_
 refine aO ?_
 try simp only [xt]
 refine bR (dM rfl ⟨_, rfl, lR b9 1 Tryz.underlying39 (bY)⟩ (gD rfl)) ?_
 exact ⟨_, _, rfl, b9.gr, _, rfl, _, _, _, _, _, _, rfl, g8, g9, h4⟩
theorem Ez {k : IntKind} {a b : Int} (h : a = b) : Ending.returned (.int k a) = .returned (.int k b) := by rw [h]
def WU (kind sess keep : Int) (n : Nat) : Int :=
  if kind < 1 ∨ 4 < kind then 5 else if (kind = 1 ∧ (sess < 0 ∨ 8 ≤ sess)) ∨ (kind = 3 ∧ (keep < 0 ∨ 200000 < keep)) then 2
  else if 4000 < n then 1 else if (kind ≠ 1 ∧ (sess ≠ 0 ∨ 0 < n)) ∨ (kind ≠ 3 ∧ keep ≠ 0) then 4 else 0
theorem GH (w : World) (kind sess keep : Int) (a : Option Addr) (n c : Nat) (hn : n ≤ 9223372036854775807) :
    Calls Tryz.prog 51 #[.agg #[.int .i64 kind, .int .i64 sess, .int .i64 keep, .slice a n c]] w (cT w (.int .i64 (WU kind sess keep n))) := by
 have HA : Hid (WU kind sess keep n = if kind < 1 ∨ 4 < kind then 5 else if (kind = 1 ∧ (sess < 0 ∨ 8 ≤ sess)) ∨ (kind = 3 ∧ (keep < 0 ∨ 200000 < keep)) then 2
  else if 4000 < n then 1 else if (kind ≠ 1 ∧ (sess ≠ 0 ∨ 0 < n)) ∨ (kind ≠ 3 ∧ keep ≠ 0) then 4 else 0) := rfl
 generalize WU kind sess keep n = r at *
 go_enter Tryz.func51, Tryz.ntmps51
 go_wp2_with fail
 all_goals
  go_ret
  refine ⟨?_, (Below.refl _ _).alloc (zZe _) _⟩
  have h := HA.out
  clear HA
  try simp only [bne_iff_ne, ne_eq, bne_eq_false_iff_eq] at *
  refine Ez (Eq.symm (h.trans ?_))
  first | rw [zZb (by omega)] | rw [zZa (by omega), zZb (by omega)] | rw [zZa (by omega), zZa (by omega), zZb (by omega)] | rw [zZa (by omega), zZa (by omega), zZa (by omega), zZb (by omega)] | rw [zZa (by omega), zZa (by omega), zZa (by omega), zZa (by omega)]
open Go.ChangeShapes Go.WideShapes Go.ChangeAt Go.RowKit
def UE : List Int := [1, 32898, 9223372036854808714, 9223372039002292224, 32907, 2147483649, 9223372039002292353, 9223372036854808585, 138, 136, 2147516425, 2147483658, 2147516555, 9223372036854775947, 9223372036854808713, 9223372036854808579, 9223372036854808578, 9223372036854775936, 32778, 9223372039002259466, 9223372039002292353, 9223372036854808704, 2147483649, 9223372039002292232]
theorem UF : Tryz.prog.globalNamed "canopy/digest.rounds" = some 4 := by kernel_rfl
theorem OG : (Tryz.prog.globals[(4 : Nat)]?).map (·.type) = some 218 := by kernel_rfl
theorem LD : Tryz.prog.cellsOf 218 = 24 := by kernel_rfl
theorem RM : Tryz.prog.cellsOf 215 = 1 := by kernel_rfl
def Gb : List Int := [10, 7, 11, 17, 18, 3, 5, 16, 8, 21, 24, 4, 15, 23, 19, 13, 12, 2, 20, 14, 22, 9, 6, 1]
theorem Gc : Tryz.prog.globalNamed "canopy/digest.goes" = some 2 := by kernel_rfl
theorem WV : (Tryz.prog.globals[(2 : Nat)]?).map (·.type) = some 235 := by kernel_rfl
theorem RN : Tryz.prog.cellsOf 235 = 24 := by kernel_rfl
theorem Aq : Tryz.prog.cellsOf 3 = 1 := by kernel_rfl
def Ar : List Int := [1, 3, 6, 10, 15, 21, 28, 36, 45, 55, 2, 14, 27, 41, 56, 8, 25, 43, 62, 18, 39, 61, 20, 44]
theorem As : Tryz.prog.globalNamed "canopy/digest.turns" = some 3 := by kernel_rfl
theorem RO : (Tryz.prog.globals[(3 : Nat)]?).map (·.type) = some 235 := by kernel_rfl
theorem OH : Tryz.prog.cellsOf 235 = 24 := by kernel_rfl
theorem WW : Tryz.prog.cellsOf 3 = 1 := by kernel_rfl
theorem At : ∀ i, i < 24 → Gb.getD i 0 = (mK i : Int) := by decide +kernel
theorem WX : ∀ i, i < 24 → Ar.getD i 0 = (nM i : Int) := by decide +kernel
theorem RP : ∀ i, i < 24 → UE.getD i 0 = gW (yZ i) := by unfold gW; decide +kernel
theorem RQ {W : World} {name : String} {k : IntKind} {zs : List Int} {g : Nat} (h : Lib.TabIs Tryz.prog W name k zs) (hg : Tryz.prog.globalNamed name = some g) {n : Nat} (hn : zs.length = n) {i : Nat} (hi : i < n) : W.cell? ⟨g, i, none⟩ = some (.int k (zs.getD i 0)) := by
 have hi' : i < zs.length := by omega
 have := h.cell hg i hi'
 exact this.trans (by simp [List.getD, hi'])
def setCells (cs : Array Value) : Obj → Obj
  | .cells _ t frozen => .cells cs t frozen
  | o => o
noncomputable def OI (os : Os) : World :=
  { World.holding Tryz.prog os ⟨#[], #[], []⟩ with heap := (((World.holding Tryz.prog os ⟨#[], #[], []⟩).heap.modify 4 (setCells #[.int .u64 1, .int .u64 32898, .int .u64 9223372036854808714, .int .u64 9223372039002292224, .int .u64 32907, .int .u64 2147483649, .int .u64 9223372039002292353, .int .u64 9223372036854808585, .int .u64 138, .int .u64 136, .int .u64 2147516425, .int .u64 2147483658, .int .u64 2147516555, .int .u64 9223372036854775947, .int .u64 9223372036854808713, .int .u64 9223372036854808579, .int .u64 9223372036854808578, .int .u64 9223372036854775936, .int .u64 32778, .int .u64 9223372039002259466, .int .u64 9223372039002292353, .int .u64 9223372036854808704, .int .u64 2147483649, .int .u64 9223372039002292232])).modify 2 (setCells #[.int .i64 10, .int .i64 7, .int .i64 11, .int .i64 17, .int .i64 18, .int .i64 3, .int .i64 5, .int .i64 16, .int .i64 8, .int .i64 21, .int .i64 24, .int .i64 4, .int .i64 15, .int .i64 23, .int .i64 19, .int .i64 13, .int .i64 12, .int .i64 2, .int .i64 20, .int .i64 14, .int .i64 22, .int .i64 9, .int .i64 6, .int .i64 1])).modify 3 (setCells #[.int .i64 1, .int .i64 3, .int .i64 6, .int .i64 10, .int .i64 15, .int .i64 21, .int .i64 28, .int .i64 36, .int .i64 45, .int .i64 55, .int .i64 2, .int .i64 14, .int .i64 27, .int .i64 41, .int .i64 56, .int .i64 8, .int .i64 25, .int .i64 43, .int .i64 62, .int .i64 18, .int .i64 39, .int .i64 61, .int .i64 20, .int .i64 44]) }
structure Rep where
  s : Nat
  code : Int
  turn : Int
  found : Bool
  value : By
  pairs : List Pr
  root : By
  outer : Prf
  inner : Prf
def jG : Prf := ⟨false, [], ([], [])⟩
def fQ (s : Nat) (e : Int) : Rep := ⟨s, e, 0, false, [], [], [], jG, jG⟩
def BJ (s : Nat) (t : Int) : Rep := ⟨s, 0, t, false, [], [], [], jG, jG⟩
structure Eng where
  up : Bool
  tape : Tp
  commits : List Cm
  forests : List aW
  synced : Nat
  txn : Nat → Option Tx
  waits : Nat → Bool
  waiting : List Nat
  replies : List Rep
def qM {α : Type} (f : Nat → α) (s : Nat) (x : α) : Nat → α := fun i => if i = s then x else f i
theorem lP {α : Type} (f : Nat → α) (s : Nat) (x : α) : qM f s x s = x := by simp [qM]
theorem jZ {α : Type} (f : Nat → α) {s i : Nat} (h : i ≠ s) (x : α) : qM f s x i = f i := by simp [qM, h]
namespace Eng
def reply (g : Eng) (r : Rep) : Eng := { g with replies := g.replies ++ [r] }
def setTxn (g : Eng) (s : Nat) (t : Option Tx) : Eng := { g with txn := qM g.txn s t }
def forest (g : Eng) (k : Nat) : aW := g.forests.getD k []
def prove (g : Eng) (s : Nat) (r : Rq) : Eng :=
  let f := g.forest g.synced
  g.reply ⟨s, 0, g.synced, (mO f r.name r.key).isSome, (mO f r.name r.key).getD [], [], yR f, aV (cE f) r.name, aV (bP f r.name) r.key⟩
def note (g : Eng) (s : Nat) (t : Tx) (r : Rd) (y : Rep) : Eng := match jL t r with
  | none => g.reply (fQ s 11)
  | some u => (g.setTxn s (some u)).reply y
def put (g : Eng) (s : Nat) (t : Tx) (w : Wr) : Eng := match gR t w with
  | none => g.reply (fQ s 11)
  | some u => (g.setTxn s (some u)).reply (fQ s 0)
def look (g : Eng) (s : Nat) (t : Tx) (r : Rq) : Eng :=
  let o := cY (g.forest t.start.toNat) t r.name r.key
  let y : Rep := ⟨s, 0, t.start, o.1.isSome, o.1.getD [], [], [], jG, jG⟩
  if o.2 then g.reply y else g.note s t ⟨r.name, r.key, false, r.last⟩ y
def scan (g : Eng) (s : Nat) (t : Tx) (r : Rq) : Eng := match GV (g.forest t.start.toNat) t r.name r.key r.last with
  | none => g.reply (fQ s 11)
  | some l => g.note s t ⟨r.name, r.key, true, r.last⟩ ⟨s, 0, t.start, false, [], l, [], jG, jG⟩
def stand (g : Eng) (s : Nat) (t : Tx) (f : aW) : Eng := { g with
  tape := ⟨g.tape.data ++ bZ ⟨g.commits.length + 1, t.writes⟩, g.tape.synced⟩
  commits := g.commits ++ [⟨g.commits.length + 1, t.writes⟩]
  forests := g.forests ++ [f]
  txn := qM g.txn s none
  waits := qM g.waits s true
  waiting := g.waiting ++ [s] }
def commit (g : Eng) (s : Nat) (t : Tx) : Eng :=
  if t.writes = [] then (g.setTxn s none).reply (BJ s t.start)
  else if g.commits.length - g.synced = 6 ∨ g.commits.length = 300 then g.reply (fQ s 11)
  else if rT t.start t.reads g.commits then (g.setTxn s none).reply (fQ s 9)
  else match lV (g.forest g.commits.length) t.writes with
    | none => (g.setTxn s none).reply (fQ s 11)
    | some f => g.stand s t f
def work (g : Eng) (s : Nat) (t : Tx) (k : Nat) (r : Rq) : Eng :=
  if k = 2 then g.look s t r else if k = 3 then g.scan s t r else if k = 6 then g.commit s t
  else g.put s t ⟨r.name, r.key, k == 5, r.value⟩
def keptB (n : Nat) (t : Int) : Bool := decide (0 ≤ t) && decide (t ≤ n) && decide (n - t < 6)
def req (g : Eng) (s : Nat) (k : Nat) (r : Rq) : Eng :=
  if k = 8 then g.prove s r
  else if g.waits s then g.reply (fQ s 6)
  else match g.txn s with
    | none => if k = 1 then (g.setTxn s (some ⟨g.synced, [], []⟩)).reply (BJ s g.synced) else g.reply (fQ s 6)
    | some t => if k = 1 then g.reply (fQ s 6)
      else if k = 7 then (g.setTxn s none).reply (fQ s 0)
      else if keptB g.synced t.start then g.work s t k r
      else (g.setTxn s none).reply (fQ s 10)
def ask (g : Eng) (s : Nat) (b : By) : Eng :=
  if g.up then (if wdE b = 0 then g.req s (wdR b).1 (wdR b).2 else g.reply (fQ s (wdE b))) else g.reply (fQ s 13)
def told : List Nat → Eng → Eng
  | [], g => g
  | s :: l, g => told l { g with synced := g.synced + 1, waits := qM g.waits s false, replies := g.replies ++ [BJ s (g.synced + 1 : Nat)] }
def sync (g : Eng) : Eng := if g.up then { told g.waiting { g with tape := ⟨g.tape.data, g.tape.data.length⟩ } with waiting := [] } else g
def crash (g : Eng) (k : Nat) : Eng := if g.up then
    let n := cO g.tape k
    let x := iT (g.tape.data.take n)
    { g with up := false, tape := ⟨(g.tape.data.take n).take x.2, min n x.2⟩, commits := x.1, forests := g.forests.take (x.1.length + 1), synced := x.1.length, txn := fun _ => none, waits := fun _ => false, waiting := [] }
  else g
def start (g : Eng) : Eng := { g with up := true }
end Eng
inductive Ac where
  | ask (s : Nat) (b : By)
  | sync
  | crash (k : Nat)
  | start
def Eng.act (g : Eng) : Ac → Eng
  | .ask s b => g.ask s b
  | .sync => g.sync
  | .crash k => g.crash k
  | .start => g.start
def FC : Eng := ⟨true, ⟨[], 0⟩, [], [[]], 0, fun _ => none, fun _ => false, [], []⟩
def dZ (l : List Ac) : Eng := l.foldl Eng.act FC
theorem lQ (a b : List Ac) : dZ (a ++ b) = b.foldl Eng.act (dZ a) := List.foldl_append
def pL : Ac → Prop
  | .ask s b => s < 8 ∧ b.length ≤ 4000
  | .crash k => k ≤ 100000
  | _ => True
def isC : Ac → Bool
  | .ask _ b => wdE b == 0 && (wdR b).1 == 6
  | _ => false
structure EngOk (m : Nat) (g : Eng) : Prop where
  hist : HistOk (sS g.commits) g.commits
  many : g.commits.length ≤ m
  states : g.forests.length = g.commits.length + 1
  state : ∀ k, k ≤ g.commits.length → g.forest k = lW g.commits k
  ok : ∀ k, k ≤ g.commits.length → ForestOk 60 (lW g.commits k)
  data : g.tape.data = dU g.commits
  safe : g.tape.synced = (dU (g.commits.take g.synced)).length
  sync : g.commits.length = g.synced + g.waiting.length
  six : g.waiting.length ≤ 6
  txns : ∀ s t, g.txn s = some t → TxOk t ∧ t.start ≤ g.synced
  who : ∀ s ∈ g.waiting, s < 8
theorem EngOk.mono {m n : Nat} {g : Eng} (h : EngOk m g) (hn : m ≤ n) : EngOk n g := { h with many := zZo h.many hn }
theorem EngOk.reply {m : Nat} {g : Eng} (h : EngOk m g) (r : Rep) : EngOk m (g.reply r) := ⟨h.hist, h.many, h.states, h.state, h.ok, h.data, h.safe, h.sync, h.six, h.txns, h.who⟩
theorem EngOk.setTxn {m : Nat} {g : Eng} (h : EngOk m g) (s : Nat) {t : Option Tx} (ht : ∀ u, t = some u → TxOk u ∧ u.start ≤ g.synced) : EngOk m (g.setTxn s t) := by
 refine ⟨h.hist, h.many, h.states, h.state, h.ok, h.data, h.safe, h.sync, h.six, fun i u hu => ?_, h.who⟩
 by_cases e : i = s
 subst e
 simp only [Eng.setTxn, lP] at hu
 exact ht u hu
 simp only [Eng.setTxn, jZ _ e] at hu
 exact h.txns i u hu
theorem EngOk.setNone {m : Nat} {g : Eng} (h : EngOk m g) (s : Nat) : EngOk m (g.setTxn s none) := h.setTxn s (fun u hu => by cases hu)
theorem EngOk.note {m : Nat} {g : Eng} (h : EngOk m g) {s : Nat} {t : Tx} (ht : TxOk t ∧ t.start ≤ g.synced) {r : Rd} (hr : RdOk r) (y : Rep) : EngOk m (g.note s t r y) := by
 unfold Eng.note
 cases e : jL t r with
 | none => exact h.reply _
 | some u =>
  refine (h.setTxn s (fun v hv => ?_)).reply _
  cases hv
  exact ⟨XS ht.1 hr e, by rw [(uR e).2.2]; exact ht.2⟩
theorem EngOk.put {m : Nat} {g : Eng} (h : EngOk m g) {s : Nat} {t : Tx} (ht : TxOk t ∧ t.start ≤ g.synced) {w : Wr} (hw : WrOk w) : EngOk m (g.put s t w) := by
 unfold Eng.put
 cases e : gR t w with
 | none => exact h.reply _
 | some u =>
  refine (h.setTxn s (fun v hv => ?_)).reply _
  cases hv
  exact ⟨VA ht.1 hw e, by rw [(PU e).2.2.1]; exact ht.2⟩
theorem Au {t : Tx} (ht : TxOk t) (h : t.writes ≠ []) : 1 ≤ t.writes.length := by
 cases e : t.writes with
 | nil => exact absurd e h
 | cons a l => simp
theorem EngOk.commit {m : Nat} {g : Eng} (h : EngOk m g) (hm : m ≤ 1000) {s : Nat} (hs : s < 8) {t : Tx} (ht : TxOk t ∧ t.start ≤ g.synced) : EngOk (m + 1) (g.commit s t) := by
 have h1 := h.mono (Nat.le_succ m)
 unfold Eng.commit
 split
 exact (h1.setNone s).reply _
 split
 exact h1.reply _
 split
 exact (h1.setNone s).reply _
 rename_i hw hq hc
 cases e : lV (g.forest g.commits.length) t.writes with
 | none => exact (h1.setNone s).reply _
 | some f =>
  have hn := h.many
  have hy := h.sync
  simp only
  rw [h.state _ (zZe _)] at e
  have hk := h.hist.snoc ht.1.writes (Au ht.1 hw) ht.1.nw (zZe _) (by omega) e
  have hsz : sS (g.commits ++ [⟨g.commits.length + 1, t.writes⟩]) = sS g.commits + t.writes.length := by simp [rS, sS]
  have hof : ForestOk 60 f := by
   have := rC ht.1.writes (f := lW g.commits g.commits.length)
   rw [e] at this
   have h2 := uB (h.ok _ (zZe _)) (ws := t.writes) (by rw [this])
   rw [this] at h2
   exact h2
  have hst : ∀ k, k ≤ g.commits.length → lW (g.commits ++ [⟨g.commits.length + 1, t.writes⟩]) k = lW g.commits k := fun k hk => by
   unfold lW; rw [List.take_append_of_le_length hk]
  unfold Eng.stand
  refine ⟨by rw [hsz]; exact hk.1, by simp; omega, by simp [h.states], fun k hk' => ?_, fun k hk' => ?_, ?_, ?_, ?_, ?_, fun i u hu => ?_, fun i hi => ?_⟩
  simp only [zZf, List.length_singleton] at hk'
  by_cases ek : k = g.commits.length + 1
  subst ek
  simp only [hk.2]
  unfold Eng.forest
  simp [List.getD, h.states]
  simp only [hst k (by omega)]
  rw [← h.state k (by omega)]
  unfold Eng.forest
  simp only [List.getD]
  rw [List.getElem?_append_left (by rw [h.states]; omega)]
  simp only [zZf, List.length_singleton] at hk'
  by_cases ek : k = g.commits.length + 1
  subst ek; simp only [hk.2]; exact hof
  simp only [hst k (by omega)]; exact h.ok k (by omega)
  simp only [yS, h.data]
  simp [dU]
  simp only
  rw [List.take_append_of_le_length (by omega)]
  exact h.safe
  simp; omega
  have := h.six
  simp only [not_or] at hq
  simp; omega
  simp only at hu
  by_cases ei : i = s
  subst ei; rw [lP] at hu; cases hu
  rw [jZ _ ei] at hu; exact h.txns i u hu
  simp only [List.mem_append, List.mem_singleton] at hi
  rcases hi with hi | rfl
  exact h.who i hi
  exact hs
def wU : List Nat → Nat → List Rep
  | [], _ => []
  | s :: l, n => BJ s ((n + 1 : Nat) : Int) :: wU l (n + 1)
theorem UG : ∀ (l : List Nat) (g : Eng), Eng.told l g = { g with synced := g.synced + l.length, waits := fun i => if i ∈ l then false else g.waits i, replies := g.replies ++ wU l g.synced }
  | [], g => by simp [Eng.told, wU]
  | s :: l, g => by
    rw [Eng.told, UG l]
    simp only [wU, zZg, zZl, List.singleton_append, Eng.mk.injEq, true_and, and_true]
    refine ⟨by omega, ?_⟩
    funext i
    by_cases e : i = s
    · subst e; simp [qM]
    · simp [qM, e]
theorem sP {g : Eng} (h : g.up = true) : g.sync = { g with tape := ⟨g.tape.data, g.tape.data.length⟩, synced := g.synced + g.waiting.length, waits := fun i => if i ∈ g.waiting then false else g.waits i, waiting := [], replies := g.replies ++ wU g.waiting g.synced } := by
 unfold Eng.sync
 rw [zZb h, UG]
theorem EngOk.syncs {m : Nat} {g : Eng} (h : EngOk m g) : EngOk m g.sync := by
 cases hu : g.up with
 | false => unfold Eng.sync; rw [hu]; exact h
 | true =>
  rw [sP hu]
  have := h.sync
  exact ⟨h.hist, h.many, h.states, h.state, h.ok, h.data, by simp only; rw [h.data, List.take_of_length_le (by omega)], by simp; omega, by simp, fun s t ht => ⟨(h.txns s t ht).1, by have := (h.txns s t ht).2; simp only; omega⟩, by simp⟩
theorem HistOk.own {m : Nat} {cs : List Cm} (h : HistOk m cs) : HistOk (sS cs) cs := { h with size := zZe _ }
theorem vO {t : Tp} (h : t.synced ≤ t.data.length) (k : Nat) : t.synced ≤ cO t k ∧ cO t k ≤ t.data.length := by unfold cO; omega
theorem OJ {cs : List Cm} (hok : ∀ c ∈ cs, CmOk c) {n : Nat} (hn : n ≤ (dU cs).length) : ((dU cs).take n).take (dU (cs.take (fY cs n))).length = dU (cs.take (fY cs n)) := by
 obtain ⟨t, h1, _⟩ := zU cs n 0 hok hn
 rw [h1, List.take_left' rfl]
theorem EngOk.syn {m : Nat} {g : Eng} (h : EngOk m g) : g.tape.synced ≤ g.tape.data.length := by
 rw [h.safe, h.data]
 have e : dU g.commits = dU (g.commits.take g.synced) ++ dU (g.commits.drop g.synced) := by rw [← yS, List.take_append_drop]
 rw [e, zZf]; omega
def Eng.left (g : Eng) (k : Nat) : Nat := fY g.commits (cO g.tape k)
theorem crash_is {m : Nat} {g : Eng} (h : EngOk m g) (hu : g.up = true) (k : Nat) : g.crash k = { g with up := false, tape := ⟨dU (g.commits.take (g.left k)), (dU (g.commits.take (g.left k))).length⟩, commits := g.commits.take (g.left k), forests := g.forests.take (g.left k + 1), synced := g.left k, txn := fun _ => none, waits := fun _ => false, waiting := [] } := by
 have hn := (vO h.syn k).2
 have hr := NX h.hist (n := cO g.tape k) (by rw [← h.data]; exact hn)
 have ht := OJ h.hist.ok (n := cO g.tape k) (by rw [← h.data]; exact hn)
 have hw := IG g.commits (cO g.tape k)
 have hl := zT g.commits (cO g.tape k)
 unfold Eng.crash
 rw [zZb hu]
 simp only
 rw [show g.tape.data.take (cO g.tape k) = (dU g.commits).take (cO g.tape k) from by rw [h.data], hr]
 simp only [ht]
 have e : (g.commits.take (fY g.commits (cO g.tape k))).length = fY g.commits (cO g.tape k) := by rw [zZh]; omega
 rw [e, Nat.min_eq_right hw]
 rfl
theorem EngOk.left_le {m : Nat} {g : Eng} (h : EngOk m g) (k : Nat) : g.synced ≤ g.left k ∧ g.left k ≤ g.commits.length := by
 refine ⟨NY _ _ _ (by have := h.sync; omega) ?_, zT _ _⟩
 rw [← h.safe]; exact (vO h.syn k).1
theorem EngOk.crashs {m : Nat} {g : Eng} (h : EngOk m g) (k : Nat) : EngOk m (g.crash k) := by
 cases hu : g.up with
 | false => unfold Eng.crash; rw [hu]; exact h
 | true =>
  rw [crash_is h hu]
  have hl := (h.left_le k).2
  have hn := h.many
  have hs := h.states
  have e : (g.commits.take (g.left k)).length = g.left k := by rw [zZh]; omega
  refine ⟨(h.hist.take _).own, by simp only; omega, by simp only; rw [e, zZh]; omega, fun j hj => ?_, fun j hj => ?_, rfl, by simp only; rw [List.take_take, Nat.min_self], by simp [e], by simp, fun s t ht => (by cases ht), by simp⟩
  simp only [e] at hj ⊢
  rw [DE hj, ← h.state j (by omega)]
  unfold Eng.forest
  simp only [List.getD, List.getElem?_take]
  rw [zZb (by omega)]
  simp only [e] at hj ⊢
  rw [DE hj]; exact h.ok j (by omega)
theorem EngOk.starts {m : Nat} {g : Eng} (h : EngOk m g) : EngOk m g.start := ⟨h.hist, h.many, h.states, h.state, h.ok, h.data, h.safe, h.sync, h.six, h.txns, h.who⟩
theorem Av {k : Nat} {r : Rq} (ok : RqOk k r) (hk : k = 2 ∨ k = 3) : RdOk ⟨r.name, r.key, k == 3, r.last⟩ := by
 obtain ⟨a1, a2, a3, a4, a5, a6, a7, a8⟩ := rI (h := bJ k) ok.fits
 rcases hk with rfl | rfl
 ·exact ⟨a1 rfl, a2 rfl, List.eq_nil_of_length_eq_zero (a7 rfl)⟩
 ·exact ⟨a1 rfl, a2 rfl, a3 rfl⟩
theorem Ia {k : Nat} {r : Rq} (ok : RqOk k r) (hk : k = 4 ∨ k = 5) : WrOk ⟨r.name, r.key, k == 5, r.value⟩ := by
 obtain ⟨a1, a2, a3, a4, a5, a6, a7, a8⟩ := rI (h := bJ k) ok.fits
 rcases hk with rfl | rfl
 ·exact ⟨a1 rfl, (a2 rfl).1, (a2 rfl).2, a4, fun h => by cases h⟩
 ·exact ⟨a1 rfl, (a2 rfl).1, (a2 rfl).2, a4, fun _ => List.eq_nil_of_length_eq_zero (a8 rfl)⟩
theorem EngOk.req {m : Nat} {g : Eng} (h : EngOk m g) (hm : m ≤ 1000) {s : Nat} (hs : s < 8) {k : Nat} {r : Rq} (ok : RqOk k r) : EngOk (m + if k = 6 then 1 else 0) (g.req s k r) := by
 obtain ⟨c, hc⟩ : ∃ c, c = if k = 6 then 1 else 0 := ⟨_, rfl⟩
 rw [← hc]
 have h1 := h.mono (Nat.le_add_right m c)
 have hk := ok.kind
 unfold Eng.req
 split
 exact h1.reply _
 split
 exact h1.reply _
 split
 split
 refine (h1.setTxn s (fun u hu => ?_)).reply _
 cases hu
 have hy := h.sync
 have hn := h.many
 exact ⟨⟨by simp; omega, by simp, by simp, by simp, by simp, by simp, by simp⟩, by simp⟩
 exact h1.reply _
 rename_i t ht
 have htx := h.txns s t ht
 split
 exact h1.reply _
 split
 exact (h1.setNone s).reply _
 split
 unfold Eng.work
 split
 rename_i e
 subst e
 unfold Eng.look
 simp only
 split
 exact h1.reply _
 exact h1.note htx (Av ok (.inl rfl)) _
 split
 rename_i e
 subst e
 unfold Eng.scan
 split
 exact h1.reply _
 exact h1.note htx (Av ok (.inr rfl)) _
 split
 rename_i e
 rw [hc, zZb e]
 exact h.commit hm hs htx
 refine h1.put htx (Ia ok (by omega))
 exact (h1.setNone s).reply _
theorem EngOk.act {m : Nat} {g : Eng} (h : EngOk m g) (hm : m ≤ 1000) {a : Ac} (ha : pL a) : EngOk (m + if isC a then 1 else 0) (g.act a) := by
 cases a with
 | ask s b =>
  obtain ⟨c, hc⟩ : ∃ c, c = if isC (.ask s b) then 1 else 0 := ⟨_, rfl⟩
  rw [← hc]
  unfold Eng.act Eng.ask
  simp only
  have h1 := h.mono (Nat.le_add_right m c)
  split
  split
  rename_i e
  have := h.req hm ha.1 (OE e).1
  refine this.mono ?_
  rw [hc]
  unfold isC
  simp only [e, beq_self_eq_true, Bool.true_and, beq_iff_eq]
  exact zZe _
  exact h1.reply _
  exact h1.reply _
 | sync => exact h.syncs
 | crash k => exact h.crashs k
 | start => exact h.starts
theorem UH : EngOk 0 FC := by
 refine ⟨HistOk.nil _, by simp [FC], by simp [FC], fun k hk => ?_, fun k hk => ?_, rfl, rfl, rfl, by simp [FC], fun s t h => (by cases h), by simp [FC]⟩
 have : k = 0 := by simpa [FC] using hk
 subst this; rfl
 have : k = 0 := by simpa [FC] using hk
 subst this; exact ForestOk.nil _
def fK (l : List Ac) : Nat := (l.map fun a => if isC a then 1 else 0).sum
theorem EngOk.run : ∀ (l : List Ac) {m : Nat} {g : Eng}, EngOk m g → m + fK l ≤ 1000 → (∀ a ∈ l, pL a) → EngOk (m + fK l) (l.foldl Eng.act g)
  | [], m, g, h, _, _ => h
  | a :: l, m, g, h, hm, ha => by
    have e : fK (a :: l) = (if isC a then 1 else 0) + fK l := by simp [fK]
    rw [e] at hm ⊢
    rw [List.foldl_cons, ← Nat.add_assoc]
    exact EngOk.run l (h.act (by omega) (ha a (by simp))) (by omega) (fun x hx => ha x (by simp [hx]))
theorem RR {l : List Ac} (hl : fK l ≤ 1000) (ha : ∀ a ∈ l, pL a) : EngOk (fK l) (dZ l) := by
 have := EngOk.run l UH (by omega) ha
 rwa [Nat.zero_add] at this
open Go.RowKit
set_option maxRecDepth 100000
set_option linter.unusedVariables false
set_option linter.unusedSimpArgs false
def TxB (F : Fz) (v : Value) : Option Tx → Prop
  | none => v = .pointer none
  | some t => ∃ b x0 y0 x1 y1, v = .pointer (some ⟨b, 0, none⟩) ∧ cS F b 0 = some (.int .i64 t.start) ∧ cS F b 1 = some (.slice x0 t.reads.length y0) ∧ cS F b 2 = some (.slice x1 t.writes.length y1) ∧ Rds F (.slice x0 t.reads.length y0) t.reads ∧ Wrs F (.slice x1 t.writes.length y1) t.writes
theorem TxB.mono {F F' : Fz} {v : Value} {t : Option Tx} (h : TxB F v t) (hl : Le F F') : TxB F' v t := by
 cases t with
 | none => exact h
 | some t =>
  obtain ⟨b, x0, y0, x1, y1, h0, h1, h2, h3, h4, h5⟩ := h
  exact ⟨b, x0, y0, x1, y1, h0, hl.cell h1, hl.cell h2, hl.cell h3, h4.mono hl, h5.mono hl⟩
def RpC (F : Fz) (cs : List Value) (r : Rep) : Prop := ∃ v p q a1 a2 a3 b1 b2 b3, cs = [.int .i64 ((r.s : Nat) : Int), .int .i64 r.code, .int .i64 r.turn, .bool r.found, v, p, q, .bool r.outer.empty, a1, a2, a3, .bool r.inner.empty, b1, b2, b3] ∧
  Bs F v r.value ∧ Prs F p r.pairs ∧ Bs F q r.root ∧ Stps F a1 r.outer.steps ∧ Bs F a2 r.outer.pair.1 ∧ Bs F a3 r.outer.pair.2 ∧ Stps F b1 r.inner.steps ∧ Bs F b2 r.inner.pair.1 ∧ Bs F b3 r.inner.pair.2
theorem RpC.mono (F F' : Fz) (x : List Value) (p : Rep) (hl : Le F F') (h : RpC F x p) : RpC F' x p := by
 obtain ⟨v, u, q, a1, a2, a3, b1, b2, b3, e, h1, h2, h3, h4, h5, h6, h7, h8, h9⟩ := h
 exact ⟨v, u, q, a1, a2, a3, b1, b2, b3, e, h1.mono hl, h2.mono hl, h3.mono hl, h4.mono hl, h5.mono hl, h6.mono hl, h7.mono hl, h8.mono hl, h9.mono hl⟩
theorem RpC.oneCell {F : Fz} {cs : List Value} {p : Rep} (h : RpC F cs p) : ∀ u ∈ cs, u.oneCell' = true := by
 obtain ⟨v, u, q, a1, a2, a3, b1, b2, b3, rfl, h1, h2, h3, h4, h5, h6, h7, h8, h9⟩ := h
 intro x hx
 simp only [zZk, List.not_mem_nil, or_false] at hx
 rcases hx with rfl | rfl | rfl | rfl | rfl | rfl | rfl | rfl | rfl | rfl | rfl | rfl | rfl | rfl | rfl
 all_goals first | rfl | exact h1.oneCell | exact h2.oneCell | exact h3.oneCell | exact h4.oneCell | exact h5.oneCell | exact h6.oneCell | exact h7.oneCell | exact h8.oneCell | exact h9.oneCell
abbrev Rps (F : Fz) (v : Value) (l : List Rep) : Prop := Sl 15 RpC F v l
def FoC (F : Fz) (cs : List Value) (f : aW) : Prop := ∃ v, cs = [v] ∧ Tns F v f
theorem FoC.mono (F F' : Fz) (x : List Value) (p : aW) (hl : Le F F') (h : FoC F x p) : FoC F' x p := by
 obtain ⟨v, e, h⟩ := h; exact ⟨v, e, Tns.mono h hl⟩
theorem FoC.oneCell {F : Fz} {cs : List Value} {p : aW} (h : FoC F cs p) : ∀ u ∈ cs, u.oneCell' = true := by
 obtain ⟨v, rfl, h⟩ := h
 intro u hu; rw [List.mem_singleton.1 hu]; exact Tns.oneCell h
def NtC (F : Fz) (cs : List Value) (n : Nat) : Prop := cs = [.int .i64 ((n : Nat) : Int)]
theorem NtC.mono (F F' : Fz) (x : List Value) (p : Nat) (hl : Le F F') (h : NtC F x p) : NtC F' x p := h
theorem NtC.oneCell {F : Fz} {cs : List Value} {p : Nat} (h : NtC F cs p) : ∀ u ∈ cs, u.oneCell' = true := by
 rw [show cs = _ from h]; intro u hu; rw [List.mem_singleton.1 hu]; rfl
def mY (up : Bool) (td : Value) (ts : Nat) (vc vf : Value) (sy : Nat) (pv : Nat → Value) (wv : Nat → Bool) (vw vr : Value) : List Value :=
  [.bool up, td, .int .i64 ((ts : Nat) : Int), vc, vf, .int .i64 ((sy : Nat) : Int), pv 0, .bool (wv 0), pv 1, .bool (wv 1), pv 2, .bool (wv 2), pv 3, .bool (wv 3), pv 4, .bool (wv 4), pv 5, .bool (wv 5), pv 6, .bool (wv 6), pv 7, .bool (wv 7), vw, vr]
section
variable {up : Bool} {td : Value} {ts : Nat} {vc vf : Value} {sy : Nat} {pv : Nat → Value} {wv : Nat → Bool} {vw vr : Value} {s : Nat}
theorem lt8 (hs : s < 8) : s = 0 ∨ s = 1 ∨ s = 2 ∨ s = 3 ∨ s = 4 ∨ s = 5 ∨ s = 6 ∨ s = 7 := by omega
theorem eV (hs : s < 8) : (mY up td ts vc vf sy pv wv vw vr)[6 + s * 2]? = some (pv s) := by
 rcases lt8 hs with rfl | rfl | rfl | rfl | rfl | rfl | rfl | rfl <;> rfl
theorem pM (hs : s < 8) : (mY up td ts vc vf sy pv wv vw vr)[6 + s * 2 + 1]? = some (.bool (wv s)) := by
 rcases lt8 hs with rfl | rfl | rfl | rfl | rfl | rfl | rfl | rfl <;> rfl
theorem mF : (mY up td ts vc vf sy pv wv vw vr).length = 24 := rfl
theorem pO (hs : s < 8) (x : Value) : cK (mY up td ts vc vf sy pv wv vw vr) (6 + s * 2) [x] = mY up td ts vc vf sy (qM pv s x) wv vw vr := by
 rcases lt8 hs with rfl | rfl | rfl | rfl | rfl | rfl | rfl | rfl <;> rfl
theorem FD (hs : s < 8) (b : Bool) : cK (mY up td ts vc vf sy pv wv vw vr) (6 + s * 2 + 1) [.bool b] = mY up td ts vc vf sy pv (qM wv s b) vw vr := by
 rcases lt8 hs with rfl | rfl | rfl | rfl | rfl | rfl | rfl | rfl <;> rfl
end
abbrev pQ (b : Nat) (vc : Value) (cs : List Cm) (vf : Value) (fs : List aW) (vw : Value) (ws : List Nat) (vr : Value) (rs : List Rep) : List RowP :=
  [cU 2 CmC CmC.mono 168 b vc cs, cU 1 FoC FoC.mono 24 b vf fs, cU 1 NtC NtC.mono 3 b vw ws, cU 15 RpC RpC.mono 54 b vr rs]
def EngM (w0 : World) (F0 : Fz) (w : World) (F : Fz) (n : Nat) (g : Eng) (L : List Blk) : Prop := ∃ ad cd ac cc af cf aw cw ar cr pv,
  St w0 F0 w F (⟨n, mY g.up (.slice ad g.tape.data.length cd) g.tape.synced (.slice ac g.commits.length cc) (.slice af g.forests.length cf) g.synced pv g.waits (.slice aw g.waiting.length cw) (.slice ar g.replies.length cr), 115⟩ :: L) (pQ w0.heap.size (.slice ac g.commits.length cc) g.commits (.slice af g.forests.length cf) g.forests (.slice aw g.waiting.length cw) g.waiting (.slice ar g.replies.length cr) g.replies) ∧
  Bs F (.slice ad g.tape.data.length cd) g.tape.data ∧ ∀ s, s < 8 → TxB F (pv s) (g.txn s)
section
variable {w0 w w' : World} {F0 F F' : Fz} {n : Nat} {g : Eng} {L L' : List Blk} {M : List RowP}
theorem EngM.drop (h : EngM w0 F0 w F n g L) (hs : L'.Sublist L) : EngM w0 F0 w F n g L' := by
 obtain ⟨ad, cd, ac, cc, af, cf, aw, cw, ar, cr, pv, S, h1, h2⟩ := h
 exact ⟨ad, cd, ac, cc, af, cf, aw, cw, ar, cr, pv, S.drop (hs.cons_cons _), h1, h2⟩
theorem EngM.sat (h : EngM w0 F0 w F n g L) : Sat w F := by obtain ⟨ad, cd, ac, cc, af, cf, aw, cw, ar, cr, pv, S, _⟩ := h; exact S.sat
theorem EngM.below (h : EngM w0 F0 w F n g L) : Below w0.heap.size w0 w := by obtain ⟨ad, cd, ac, cc, af, cf, aw, cw, ar, cr, pv, S, _⟩ := h; exact S.gr.below
theorem St.perm (S : St w0 F0 w F L M) (h : L.Perm L') : St w0 F0 w F L' M := ⟨S.gr, fun x hx => S.blk x (h.mem_iff.2 hx), S.row, (h.pairwise_iff (fun hne => Ne.symm hne)).1 S.bb, fun r hr x hx => S.rb r hr x (h.mem_iff.2 hx), S.rr⟩
end
def wV (w0 : World) (F0 F : Fz) (n : Nat) (g : Eng) (L : List Blk) (e : Ending) (w' : World) : Prop := e = .returned (.tuple #[]) ∧ ∃ F', Le F F' ∧ EngM w0 F0 w' F' n g L
theorem sQ {F : Fz} {pv : Nat → Value} {tx : Nat → Option Tx} (h : ∀ i, i < 8 → TxB F (pv i) (tx i)) {x : Value} {t : Option Tx} (hx : TxB F x t) (s : Nat) : ∀ i, i < 8 → TxB F (qM pv s x i) (qM tx s t i) := by
 intro i hi
 by_cases e : i = s
 ·subst e; rw [lP, lP]; exact hx
 ·rw [jZ _ e, jZ _ e]; exact h i hi
theorem eG {F F' : Fz} {pv : Nat → Value} {tx : Nat → Option Tx} (h : ∀ i, i < 8 → TxB F (pv i) (tx i)) (hl : Le F F') : ∀ i, i < 8 → TxB F' (pv i) (tx i) := fun i hi => (h i hi).mono hl
theorem zV {w : World} {F : Fz} {n : Nat} {c : List Value} (hs : Sat w F) (h : ∀ (j : Nat) v, c[j]? = some v → cS F n j = some v) : w.rangeAt n 0 c := fun k v hk => by rw [Nat.zero_add]; exact hs.cell (h k v hk)
theorem Le.cells {F F' : Fz} {n : Nat} {c : List Value} (hl : Le F F') (h : ∀ (j : Nat) v, c[j]? = some v → cS F n j = some v) : ∀ (j : Nat) v, c[j]? = some v → cS F' n j = some v := fun j v hv => hl.cell (h j v hv)
theorem CH {P : Program} {ρ : Operand → Value} {w : World} {d : Option Tmp} {t X Y e : TypeId} {pos : String} {after : Array Edge} {guard : Option (Nat × Bool)} {x y : Operand} {p : Option Addr} (hX : P.underlying X = some (.pointer e)) (hx : ρ x = .pointer p) (hy : ρ y = .pointer none) :
    (execOp ρ ⟨d, .binOp .neq X x y Y, t, pos, after, guard⟩).run P w = .ok (.value (.bool (!p.isNone))) w := by
 have hp : P.pointee X = e := by simp [Program.pointee, hX]
 have e1 := run_neq_pointer_nil (P := P) w X p (by rw [hp]; exact hX)
 have e2 : (eqGuard .neq X x y (.pointer p) (.pointer none)).run P w = .ok () w := rfl
 simp only [execOp, hx, hy, Sem.run_bind, e2, Result.andThen_ok, e1, Sem.run_pure]
theorem Aw {P : Program} {ρ : Operand → Value} {w : World} {d : Option Tmp} {t X E : TypeId} {n : Nat} {pos : String} {after : Array Edge} {guard : Option (Nat × Bool)} {x y : Operand} {b o i : Nat} (hX : P.underlying X = some (.array n E)) (hs : (sizeOf E).run P w = .ok 2 w) (hx : ρ x = .pointer (some ⟨b, o, none⟩)) (hy : ρ y = .int .i64 i) (hi : i < n) :
    (execOp ρ ⟨d, .indexAddr X x y, t, pos, after, guard⟩).run P w = .ok (.value (.pointer (some ⟨b, o + i * 2, none⟩))) w := by
 have hadd : (⟨b, o, none⟩ : Addr).add (i * 2) = ⟨b, o + i * 2, none⟩ := Addr.add_mid b o (i * 2)
 have hlt : (0 : Int) ≤ (i : Int) ∧ (i : Int) < (n : Int) := by omega
 simp [execOp, hx, hy, Instr.indexAt, Instr.sureAddr, asIntOf, Sem.run_bind, Sem.run_pure, Result.andThen_ok, run_underlying hX w, hs, hadd, hlt, hi]
theorem Ib : (Tryz.prog.info? 3).map (fun i => (i.zero, i.size, i.bytes)) = some (some (.int .i64 0), 1, 8) := by kernel_rfl
theorem UI : (Tryz.prog.info? 24).map (fun i => (i.zero, i.size, i.bytes)) = some (some (.slice none 0 0), 1, 24) := by kernel_rfl
theorem UJ {E base : Nat} {w : World} {F : Fz} {l : List aW} {a : Option Addr} {n c : Nat} (h : Own 1 FoC E base w F (.slice a n c) l) {i : Nat} {f : aW} (hp : l[i]? = some f) :
    ∃ g, a = some ⟨g, 0, none⟩ ∧ ∃ xa xc, w.cell? ⟨g, 0 + i * 1, none⟩ = some (.slice xa f.length xc) ∧ Tns F (.slice xa f.length xc) f := by
 obtain ⟨g, cs, e, _, ⟨x, rfl, r1⟩, hr⟩ := h.at hp
 obtain ⟨xa, xc, rfl, _⟩ := Sl.shape r1
 refine ⟨g, e, xa, xc, ?_, r1⟩
 have := hr 0 _ rfl; rw [Nat.zero_add]; simpa using this
theorem Ja {E base : Nat} {w : World} {F : Fz} {l : List Nat} {a : Option Addr} {n c : Nat} (h : Own 1 NtC E base w F (.slice a n c) l) {i : Nat} {m : Nat} (hp : l[i]? = some m) :
    ∃ g, a = some ⟨g, 0, none⟩ ∧ w.cell? ⟨g, 0 + i * 1, none⟩ = some (.int .i64 ((m : Nat) : Int)) := by
 obtain ⟨g, cs, e, _, r1, hr⟩ := h.at hp
 rw [show cs = _ from r1] at hr
 refine ⟨g, e, ?_⟩
 have := hr 0 _ rfl; rw [Nat.zero_add]; simpa using this
theorem yU {P : Program} {o : Oper} {a : Act} {w : World} {v : Value} (h : (execOp a.eval o).run P w = .ok (.value v) w) : kO P o a w (wD v w) := by
 unfold kO
 rw [h]
 exact ⟨rfl, Below.refl _ _⟩
abbrev Ic (F : Fz) (n : Nat) (c : List Value) (T : TypeId) (w : World) : Prop := Sat w F ∧ w.heap[n]? = some (.cells c.toArray T (0, 0))
theorem Gd {w : World} {n : Nat} {c : List Value} {T : TypeId} {fr : Nat × Nat} {j : Nat} {v : Value} (h : w.heap[n]? = some (.cells c.toArray T fr)) (hv : c[j]? = some v) : w.cell? ⟨n, j, none⟩ = some v := by simp [World.cell?, h, hv]
structure HE (P : Program) (ops : Array Oper) (Q : Exit → Act → World → Prop) (S : World → Prop) (fuel : Nat) (listed : Array Bool) (a : Act) (w : World) : Prop where
  out : Go.wpAnyH P .any ops Q S fuel listed a w
section
variable {P : Program} {ops : Array Oper} {Q : Exit → Act → World → Prop} {R : World → Prop} {fuel : Nat} {listed : Array Bool} {a : Act} {w w0 : World} {o : Oper} {F0 F F' : Fz} {L : List Blk} {M : List RowP} {i n : Nat} {c : List Value} {T : TypeId}
theorem fP (S : St w0 F0 w F' L M) (hl : Le F F') (hL : L[i]? = some ⟨n, c, T⟩) : Ic F n c T w := ⟨S.sat.le hl, (S.blk _ (St.mem hL)).1⟩
theorem II {id : Nat} {l : List Oper} (S : St w0 F0 w F L M) (hL : L[i]? = some ⟨n, c, T⟩) (hm : P.follows .mixedOrders = true) (h : ∀ w', St w0 F0 w' F L M → HE P l.toArray Q (Ic F n c T) l.length (Array.replicate l.length false) a w') : (Code.region id l.toArray true).wp P Q a w := by
 have := (h { w with drawn := w.drawn + 1 } (S.tells (Below.refl w.heap.size w).drew)).out
 refine wp_region_held (S := Ic F n c T) hm ?_
 simpa using this
theorem yV {l : List Oper} (i : Nat) (hi : l[i]? = some o) (hc : kF l.toArray listed i = true) {v : Value} (hQ : ∀ c a w, Q (.panic c) (a.put o.dst v) w → Q (.panic c) a w) (hS : R w) (hw : Region.wanted o (yielded l.toArray a.tmps) = true)
    (hr : ∀ w1, R w1 → (execOp a.eval o).run P w1 = .ok (.value v) w1) (h : HE P l.toArray Q R fuel (listed.setIfInBounds i true) (a.put o.dst v) w) : HE P l.toArray Q R (fuel + 1) listed a w := by
 simp only [kF, Bool.and_eq_true] at hc
 exact ⟨Go.wpAnyH_take (by simpa using hi) hc.1.1 hc.1.2 hc.2 hQ (.inl ⟨hw, hr⟩) hS h.out⟩
theorem RS {l : List Oper} (m : Nat) (hm : l[m]? = some o) (h : WL P l.toArray (Exit.then (fun a' w' => R w' ∧ Go.wpAnyH P .any l.toArray Q R fuel (listed.setIfInBounds m true) a' w') Q) [o] a w) : wpOp P l.toArray Q m (fun a' w' => R w' ∧ Go.wpAnyH P .any l.toArray Q R fuel (listed.setIfInBounds m true) a' w') a w := by
 have h1 := h.out
 unfold wpList at h1
 unfold wpOp
 have hi' : l.toArray[m]? = some o := by simpa using hm
 simp only [hi']
 split
 rename_i hw
 rw [zZb hw] at h1
 rcases h1 with h1 | h1
 left
 refine Oper.wp_mono (fun a' w' hk => ?_) (Oper.wp_exit h1)
 exact hk
 exact .inr h1
 rename_i hw
 rw [zZa hw] at h1
 exact h1
theorem qE {l : List Oper} (i : Nat) (hr : Region.ready .any l.toArray listed = [i]) (hi : l[i]? = some o) (h : WL P l.toArray (Exit.then (fun a' w' => R w' ∧ Go.wpAnyH P .any l.toArray Q R fuel (listed.setIfInBounds i true) a' w') Q) [o] a w) : HE P l.toArray Q R (fuel + 1) listed a w := by
 refine ⟨Go.wpAnyH_all hr (by simp) fun j hj => ?_⟩
 obtain rfl : j = i := by simpa using hj
 exact RS j hi h
theorem Ax {l : List Oper} {o1 o2 : Oper} (i j : Nat) (hr : Region.ready .any l.toArray listed = [i, j]) (hi : l[i]? = some o1) (hj : l[j]? = some o2)
    (h1 : WL P l.toArray (Exit.then (fun a' w' => R w' ∧ Go.wpAnyH P .any l.toArray Q R fuel (listed.setIfInBounds i true) a' w') Q) [o1] a w)
    (h2 : WL P l.toArray (Exit.then (fun a' w' => R w' ∧ Go.wpAnyH P .any l.toArray Q R fuel (listed.setIfInBounds j true) a' w') Q) [o2] a w) : HE P l.toArray Q R (fuel + 1) listed a w := by
 refine ⟨Go.wpAnyH_all hr (by simp) fun k hk => ?_⟩
 rcases (by simpa using hk : k = i ∨ k = j) with rfl | rfl
 exact RS k hi h1
 exact RS k hj h2
theorem kZ (hS : R w) (h : HE P ops Q R fuel listed a w) : Exit.then (fun a' w' => R w' ∧ Go.wpAnyH P .any ops Q R fuel listed a' w') Q .normal a w := ⟨hS, h.out⟩
theorem CI (hr : Region.ready .any ops listed = []) (h : Q .normal a w) : HE P ops Q R fuel listed a w := ⟨Go.wpAnyH_done hr h _⟩
end
def RpV (F : Fz) (u : Value) (r : Rep) : Prop := ∃ v p q a1 a2 a3 b1 b2 b3, u = .agg #[.int .i64 ((r.s : Nat) : Int), .int .i64 r.code, .int .i64 r.turn, .bool r.found, v, p, q, .bool r.outer.empty, a1, a2, a3, .bool r.inner.empty, b1, b2, b3] ∧
  Bs F v r.value ∧ Prs F p r.pairs ∧ Bs F q r.root ∧ Stps F a1 r.outer.steps ∧ Bs F a2 r.outer.pair.1 ∧ Bs F a3 r.outer.pair.2 ∧ Stps F b1 r.inner.steps ∧ Bs F b2 r.inner.pair.1 ∧ Bs F b3 r.inner.pair.2
theorem RpV.code (F : Fz) (s : Nat) (e : Int) : RpV F (.agg #[.int .i64 ((s : Nat) : Int), .int .i64 e, .int .i64 0, .bool false, .slice none 0 0, .slice none 0 0, .slice none 0 0, .bool false, .slice none 0 0, .slice none 0 0, .slice none 0 0, .bool false, .slice none 0 0, .slice none 0 0, .slice none 0 0]) (fQ s e) :=
  ⟨_, _, _, _, _, _, _, _, _, rfl, Bs.nil _, Sl.nil _ _ _, Bs.nil _, Sl.nil _ _ _, Bs.nil _, Bs.nil _, Sl.nil _ _ _, Bs.nil _, Bs.nil _⟩
theorem RpV.turn (F : Fz) (s : Nat) (t : Int) : RpV F (.agg #[.int .i64 ((s : Nat) : Int), .int .i64 0, .int .i64 t, .bool false, .slice none 0 0, .slice none 0 0, .slice none 0 0, .bool false, .slice none 0 0, .slice none 0 0, .slice none 0 0, .bool false, .slice none 0 0, .slice none 0 0, .slice none 0 0]) (BJ s t) :=
  ⟨_, _, _, _, _, _, _, _, _, rfl, Bs.nil _, Sl.nil _ _ _, Bs.nil _, Sl.nil _ _ _, Bs.nil _, Bs.nil _, Sl.nil _ _ _, Bs.nil _, Bs.nil _⟩
open Go.RowKit
set_option linter.unusedVariables false
section
variable {P : Program} {Q : Exit → Act → World → Prop} {R : World → Prop} {fuel : Nat} {listed : Array Bool} {a : Act} {w : World} {o : Oper} {l : List Oper} {d : Option Tmp} {t : TypeId} {pos : String} {after : Array Edge} {guard : Option (Nat × Bool)} {x : Operand} {v : Value} {p : Addr} {n : Nat} {vs : Array Value}
theorem mG (i : Nat) (hi : l[i]? = some o) (v : Value) (hS : R w) (hr : ∀ w1, R w1 → (execOp a.eval o).run P w1 = .ok (.value v) w1) (h : HE P l.toArray Q R fuel (listed.setIfInBounds i true) (a.put o.dst v) w) (hc : kF l.toArray listed i = true := by kernel_rfl) (hQ : ∀ c a w, Q (.panic c) (a.put o.dst v) w → Q (.panic c) a w := by exact fun _ _ _ h => h) (hw : Region.wanted o (yielded l.toArray a.tmps) = true := by exact rfl) : HE P l.toArray Q R (fuel + 1) listed a w := yV i hi hc hQ hS hw hr h
theorem uO (i : Nat) (hi : l[i]? = some ⟨d, .move x, t, pos, after, guard⟩) (hS : R w) (h : HE P l.toArray Q R fuel (listed.setIfInBounds i true) (a.put d v) w) (hx : ev a x = some v := by exact rfl) (hc : kF l.toArray listed i = true := by kernel_rfl) (hQ : ∀ c a w, Q (.panic c) (a.put d v) w → Q (.panic c) a w := by exact fun _ _ _ h => h) (hw : Region.wanted ⟨d, .move x, t, pos, after, guard⟩ (yielded l.toArray a.tmps) = true := by exact rfl) : HE P l.toArray Q R (fuel + 1) listed a w := yV i hi hc hQ hS hw (fun w _ => dP hx ▸ fR _) h
theorem nL (i : Nat) (hi : l[i]? = some ⟨d, .assign x, t, pos, after, guard⟩) (hS : R w) (h : HE P l.toArray Q R fuel (listed.setIfInBounds i true) (a.put d v) w) (hx : ev a x = some v := by exact rfl) (hc : kF l.toArray listed i = true := by kernel_rfl) (hQ : ∀ c a w, Q (.panic c) (a.put d v) w → Q (.panic c) a w := by exact fun _ _ _ h => h) (hw : Region.wanted ⟨d, .assign x, t, pos, after, guard⟩ (yielded l.toArray a.tmps) = true := by exact rfl) : HE P l.toArray Q R (fuel + 1) listed a w := yV i hi hc hQ hS hw (fun w _ => dP hx ▸ qV _) h
theorem UK (i : Nat) (hi : l[i]? = some ⟨d, .nilCheck x, t, pos, after, guard⟩) (hS : R w) (h : HE P l.toArray Q R fuel (listed.setIfInBounds i true) (a.put d (.pointer (some p))) w) (hx : ev a x = some (.pointer (some p)) := by exact rfl) (hc : kF l.toArray listed i = true := by kernel_rfl) (hQ : ∀ c a w, Q (.panic c) (a.put d (.pointer (some p))) w → Q (.panic c) a w := by exact fun _ _ _ h => h) (hw : Region.wanted ⟨d, .nilCheck x, t, pos, after, guard⟩ (yielded l.toArray a.tmps) = true := by exact rfl) : HE P l.toArray Q R (fuel + 1) listed a w := yV i hi hc hQ hS hw (fun w _ => mP (dP hx)) h
theorem sX (i : Nat) (hi : l[i]? = some ⟨d, .extract x n, t, pos, after, guard⟩) (hS : R w) (h : HE P l.toArray Q R fuel (listed.setIfInBounds i true) (a.put d v) w) (hx : ev a x = some (.tuple vs) := by exact rfl) (hv : vs[n]? = some v := by exact rfl) (hc : kF l.toArray listed i = true := by kernel_rfl) (hQ : ∀ c a w, Q (.panic c) (a.put d v) w → Q (.panic c) a w := by exact fun _ _ _ h => h) (hw : Region.wanted ⟨d, .extract x n, t, pos, after, guard⟩ (yielded l.toArray a.tmps) = true := by exact rfl) : HE P l.toArray Q R (fuel + 1) listed a w := yV i hi hc hQ hS hw (fun w _ => cC (dP hx) hv) h
end
open Go.RowKit
set_option maxRecDepth 100000
set_option linter.unusedVariables false
set_option linter.unusedSimpArgs false
theorem OK (w0 : World) (F0 : Fz) (w : World) (F : Fz) (n : Nat) (L : List Blk) (up : Bool) (td : Value) (ts : Nat) (vc vf : Value) (sy : Nat) (pv : Nat → Value) (wv : Nat → Bool) (vw : Value) (cs : List Cm) (fs : List aW) (ws : List Nat) (ar : Option Addr) (cr : Nat) (rs : List Rep) (u : Value) (r : Rep) (S : St w0 F0 w F (⟨n, mY up td ts vc vf sy pv wv vw (.slice ar rs.length cr), 115⟩ :: L) (pQ w0.heap.size vc cs vf fs vw ws (.slice ar rs.length cr) rs)) (hu : RpV F u r) (hq : rs.length ≤ 100000) :
    Calls Tryz.prog 79 #[.pointer (some ⟨n, 0, none⟩), u] w fun e w' => e = .returned (.tuple #[]) ∧ ∃ F' a c, Le F F' ∧ St w0 F0 w' F' (⟨n, mY up td ts vc vf sy pv wv vw (.slice a (rs ++ [r]).length c), 115⟩ :: L) (pQ w0.heap.size vc cs vf fs vw ws (.slice a (rs ++ [r]).length c) (rs ++ [r])) := by
 obtain ⟨v, p, q, a1, a2, a3, b1, b2, b3, rfl, h0, h1, h2, h3, h4, h5, h6, h7, h8⟩ := hu
 obtain ⟨b5, a5, a6, a7, a8⟩ := info_parts Cw
 go_enter Tryz.func79, Tryz.ntmps79
 refine sk fun K1 hK1 => ?_
 refine bH S (v := fun n => .pointer (aA n 0)) rfl (bX (v := (.agg #[(nI r.s), (.int .i64 r.code), (.int .i64 r.turn), (.bool r.found), v, p, q, (.bool r.outer.empty), a1, a2, a3, (.bool r.inner.empty), b1, b2, b3])) rfl) (fun n2 w3 S4 => ?_)
 refine wn hK1 ?_
 obtain ⟨S5, le6, hc7⟩ := St.freezeBlk S4 (i := 0) rfl
 generalize addF F w3 n2 = F8 at *
 refine gC S5 (by kernel_rfl) (fun c5 S9 => ?_)
 refine dN 0 rfl S9.sat ?_
 simp only [pq]
 refine dN 1 rfl S9.sat ?_
 simp only [pq]
 refine HT 2 rfl S9.sat ?_
 simp only [pq]
 refine bW 3 rfl _ S9.sat (fun _ _ => ef (tV _ _)) ?_
 simp only [pq]
 refine bW 5 rfl (.agg #[(nI r.s), (.int .i64 r.code), (.int .i64 r.turn), (.bool r.found), v, p, q, (.bool r.outer.empty), a1, a2, a3, (.bool r.inner.empty), b1, b2, b3]) S9.sat (fun _ b0 => aD rfl (jC (cs := [(nI r.s), (.int .i64 r.code), (.int .i64 r.turn), (.bool r.found), v, p, q, (.bool r.outer.empty), a1, a2, a3, (.bool r.inner.empty), b1, b2, b3]) Tryz.underlying54 rfl (yB) (zV (c := [(nI r.s), (.int .i64 r.code), (.int .i64 r.turn), (.bool r.found), v, p, q, (.bool r.outer.empty), a1, a2, a3, (.bool r.inner.empty), b1, b2, b3]) (St.start b0).sat hc7))) ?_
 simp only [pq]
 refine LA 4 6 (by kernel_rfl) rfl rfl ?_ ?_
 refine dl (nX _) S9 0 ?_
 refine aG (cA S9.sat ?_)
 refine cW 6 (by kernel_rfl) rfl ?_
 refine bH S9 (v := fun n => .slice (aA n 0) 1 1) rfl (cN (ps := #[(0, (.agg #[(nI r.s), (.int .i64 r.code), (.int .i64 r.turn), (.bool r.found), v, p, q, (.bool r.outer.empty), a1, a2, a3, (.bool r.inner.empty), b1, b2, b3]))]) (cells := #[(nI r.s), (.int .i64 r.code), (.int .i64 r.turn), (.bool r.found), v, p, q, (.bool r.outer.empty), a1, a2, a3, (.bool r.inner.empty), b1, b2, b3]) (E := 54) (cZ rfl) (fun w => by kernel_rfl)) (fun c6 c7 b4 => ?_)
 refine aG (cA b4.sat ?_)
 refine cW 7 (by kernel_rfl) rfl ?_
 refine fH (i := 0) (r := 3) (p := r) (cs := [(nI r.s), (.int .i64 r.code), (.int .i64 r.turn), (.bool r.found), v, p, q, (.bool r.outer.empty), a1, a2, a3, (.bool r.inner.empty), b1, b2, b3]) b4 rfl b5 (.agg #[(iI 0), (iI 0), (iI 0), bF, Zn, Zn, Zn, bF, Zn, Zn, Zn, bF, Zn, Zn, Zn]) 264 Tryz.underlying41 a5 a6 a7 a8 rfl (by decide) rfl rfl rfl rfl rfl (RpC.oneCell (p := r) ⟨_, _, _, _, _, _, _, _, _, rfl, h0.mono le6, h1.mono le6, h2.mono le6, h3.mono le6, h4.mono le6, h5.mono le6, h6.mono le6, h7.mono le6, h8.mono le6⟩) (⟨_, _, _, _, _, _, _, _, _, rfl, h0.mono le6, h1.mono le6, h2.mono le6, h3.mono le6, h4.mono le6, h5.mono le6, h6.mono le6, h7.mono le6, h8.mono le6⟩) (zZe _) b4.gr.below.size (by unfold maxLen; omega) (by omega) ?_
 intro c8 c9 a0 c1
 simp only [pq]
 have a0 := St.drop a0 (.cons _ (zZd _))
 obtain ⟨d0, b6, rfl, d1, c2⟩ := (a0.own (i := 3) rfl).shape
 unfold maxLen at c2
 refine aG (cA a0.sat ?_)
 refine HT 8 rfl a0.sat ?_
 simp only [pq]
 refine bW 9 rfl _ a0.sat (fun _ _ => ef (tV _ _)) ?_
 simp only [pq]
 refine cW 10 (by kernel_rfl) rfl ?_
 refine sW 0 a0 (SP) fun d2 b7 => ?_
 refine aG (cA b7.sat ?_)
 refine gX (by kernel_rfl) ?_
 try simp only [xt]
 refine bE (iV rfl) ?_
 exact ⟨rfl, _, _, _, le6, b7⟩
 refine bH S9 (v := fun n => .slice (aA n 0) 1 1) rfl (cN (ps := #[(0, (.agg #[(nI r.s), (.int .i64 r.code), (.int .i64 r.turn), (.bool r.found), v, p, q, (.bool r.outer.empty), a1, a2, a3, (.bool r.inner.empty), b1, b2, b3]))]) (cells := #[(nI r.s), (.int .i64 r.code), (.int .i64 r.turn), (.bool r.found), v, p, q, (.bool r.outer.empty), a1, a2, a3, (.bool r.inner.empty), b1, b2, b3]) (E := 54) (cZ rfl) (fun w => by kernel_rfl)) (fun d3 d4 a9 => ?_)
 refine aG (cA a9.sat ?_)
 refine cW 4 (by kernel_rfl) rfl ?_
 refine dl (nX _) a9 1 ?_
 refine aG (cA a9.sat ?_)
 refine cW 7 (by kernel_rfl) rfl ?_
 refine fH (i := 0) (r := 3) (p := r) (cs := [(nI r.s), (.int .i64 r.code), (.int .i64 r.turn), (.bool r.found), v, p, q, (.bool r.outer.empty), a1, a2, a3, (.bool r.inner.empty), b1, b2, b3]) a9 rfl b5 (.agg #[(iI 0), (iI 0), (iI 0), bF, Zn, Zn, Zn, bF, Zn, Zn, Zn, bF, Zn, Zn, Zn]) 264 Tryz.underlying41 a5 a6 a7 a8 rfl (by decide) rfl rfl rfl rfl rfl (RpC.oneCell (p := r) ⟨_, _, _, _, _, _, _, _, _, rfl, h0.mono le6, h1.mono le6, h2.mono le6, h3.mono le6, h4.mono le6, h5.mono le6, h6.mono le6, h7.mono le6, h8.mono le6⟩) (⟨_, _, _, _, _, _, _, _, _, rfl, h0.mono le6, h1.mono le6, h2.mono le6, h3.mono le6, h4.mono le6, h5.mono le6, h6.mono le6, h7.mono le6, h8.mono le6⟩) (zZe _) a9.gr.below.size (by unfold maxLen; omega) (by omega) ?_
 intro d5 d6 a4 c3
 simp only [pq]
 have a4 := St.drop a4 (.cons _ (zZd _))
 obtain ⟨d7, b9, rfl, d8, c4⟩ := (a4.own (i := 3) rfl).shape
 unfold maxLen at c4
 refine aG (cA a4.sat ?_)
 refine HT 8 rfl a4.sat ?_
 simp only [pq]
 refine bW 9 rfl _ a4.sat (fun _ _ => ef (tV _ _)) ?_
 simp only [pq]
 refine cW 10 (by kernel_rfl) rfl ?_
 refine sW 0 a4 (SP) fun d9 c0 => ?_
 refine aG (cA c0.sat ?_)
 refine gX (by kernel_rfl) ?_
 try simp only [xt]
 refine bE (iV rfl) ?_
 exact ⟨rfl, _, _, _, le6, c0⟩
theorem kG (w0 : World) (F0 : Fz) (w : World) (F : Fz) (n : Nat) (g : Eng) (L : List Blk) (u : Value) (r : Rep) (hM : EngM w0 F0 w F n g L) (hu : RpV F u r) (hq : g.replies.length ≤ 100000) :
    Calls Tryz.prog 79 #[.pointer (some ⟨n, 0, none⟩), u] w (wV w0 F0 F n (g.reply r) L) := by
 obtain ⟨ad, cd, ac, cc, af, cf, aw, cw, ar, cr, pv, S, hd, ht⟩ := hM
 refine (OK _ _ _ _ _ _ _ _ _ _ _ _ _ _ _ _ _ _ _ _ _ u r S hu hq).mono ?_
 rintro e w' ⟨he, F', a, c, hl, S'⟩
 exact ⟨he, F', hl, _, _, _, _, _, _, _, _, _, _, _, S', hd.mono hl, eG ht hl⟩
theorem iF (w0 : World) (F0 : Fz) (w : World) (F : Fz) (n : Nat) (g : Eng) (L : List Blk) (s : Nat) (e : Int) (hM : EngM w0 F0 w F n g L) (hq : g.replies.length ≤ 100000) :
    Calls Tryz.prog 76 #[.pointer (some ⟨n, 0, none⟩), .int .i64 ((s : Nat) : Int), .int .i64 e] w (wV w0 F0 F n (g.reply (fQ s e)) L) := by
 obtain ⟨ad, cd, ac, cc, af, cf, aw, cw, ar, cr, pv, S, hd, ht⟩ := hM
 go_enter Tryz.func76, Tryz.ntmps76
 refine aB ?_
 refine aC ?_
 refine dr (.agg #[(nI s), (.int .i64 e), (iI 0), bF, Zn, Zn, Zn, bF, Zn, Zn, Zn, bF, Zn, Zn, Zn]) (aK (fD rfl rfl) (by kernel_rfl)) ?_
 simp only [pq]
 have hM4 : EngM _ _ _ _ n g _ := ⟨_, _, _, _, _, _, _, _, _, _, _, S, hd, ht⟩
 refine doC rfl (fn2 (qL _ _)) (kG _ _ _ _ _ _ _ _ _ hM4 (RpV.code _ s e) hq) ?_
 rintro _ w5 ⟨rfl, F6, le7, hM8⟩
 refine ⟨_, rfl, ?_⟩
 obtain ⟨ad9, a3, a4, a5, a6, a7, a8, a9, b0, b1, b2, b3, a0, a1⟩ := hM8
 refine aG ?_
 try simp only [xt]
 refine bE (iV rfl) ?_
 have a2 : EngM _ _ _ _ n (g.reply (fQ s e)) _ := ⟨_, _, _, _, _, _, _, _, _, _, _, b3, a0, a1⟩
 exact ⟨rfl, _, le7, a2⟩
open Go.RowKit
set_option maxRecDepth 100000
theorem Ay (n t : Int) (w : World) (h1 : 0 ≤ t) (h2 : t ≤ n) (h3 : n - t < 6) (_h4 : n ≤ 1000000) :
    Calls Tryz.prog 80 #[.int .i64 n, .int .i64 t] w fun e w' => e = .returned (.bool true) ∧ w' = w := by
 go_enter Tryz.func80, Tryz.ntmps80
 go_wp2
 go_ret
 exact ⟨by simp, rfl⟩
theorem Fa (n t : Int) (w : World) (h1 : t < 0 ∨ n < t ∨ 6 ≤ n - t) (h4 : 0 ≤ n) (h5 : n ≤ 1000000) (h6 : -10 ≤ t) (h7 : t ≤ 2000000) :
    Calls Tryz.prog 80 #[.int .i64 n, .int .i64 t] w fun e w' => e = .returned (.bool false) ∧ w' = w := by
 by_cases a : t < 0
 ·go_enter Tryz.func80, Tryz.ntmps80
  go_wp2
  go_ret
  exact ⟨rfl, rfl⟩
 ·by_cases b : n < t
  ·go_enter Tryz.func80, Tryz.ntmps80
   go_wp2
   go_ret
   exact ⟨rfl, rfl⟩
  ·go_enter Tryz.func80, Tryz.ntmps80
   go_wp2
   go_ret
   exact ⟨by simp; omega, rfl⟩
def many (n t : Int) : Int := min (max (t - max 0 (n - 5)) 0) (min (n + 1) 6)
open Go.RowKit
set_option maxRecDepth 100000
set_option linter.unusedVariables false
set_option linter.unusedSimpArgs false
theorem FE (F : Fz) (w : World) (v u : Value) (t : Tx) (r : Rd) (hs : Sat w F) (hv : TxV F v t) (hu : RdV F u r) (ht : TxOk t) (hr : RdOk r) (e : jL t r = none) :
    Calls Tryz.prog 106 #[v, u] w (dF w F fun F' u => TxE F' u jW 11) := by
 have := yK F w v u t r hs hv hu (fun x hx => (ht.writes x hx).small)
 obtain ⟨h1, h2⟩ := QU ht hr e
 rwa [h1, h2] at this
theorem BK (F : Fz) (w : World) (v u : Value) (t : Tx) (r : Wr) (hs : Sat w F) (hv : TxV F v t) (hu : WrV F u r) (ht : TxOk t) (hr : WrOk r) (e : gR t r = none) :
    Calls Tryz.prog 94 #[v, u] w (dF w F fun F' u => TxE F' u jW 11) := by
 have := uG F w v u t r hs hv hu (fun x hx => (ht.writes x hx).small) hr.small
 obtain ⟨h1, h2⟩ := AM ht hr e
 rwa [h1, h2] at this
def Jb (w0 : World) (F0 F : Fz) (n : Nat) (g : Eng) (L : List Blk) (s : Nat) (o : Option Tx) (e : Ending) (w' : World) : Prop := ∃ F', Le F F' ∧ match o with
  | none => e = .returned (.bool false) ∧ EngM w0 F0 w' F' n (g.reply (fQ s 11)) L
  | some u => e = .returned (.bool true) ∧ EngM w0 F0 w' F' n (g.setTxn s (some u)) L
theorem FF (w0 : World) (F0 : Fz) (w : World) (F : Fz) (n : Nat) (g : Eng) (L : List Blk) (s : Nat) (hs8 : s < 8) (u : Value) (k : Nat) (r : Rq) (b_ : Bool) (t : Tx) (hM : EngM w0 F0 w F n g L) (hh : Has w0) (hv : BG F u k r.name r.key r.last r.value) (ok : RqOk k r) (hk : (k = 2 ∧ b_ = false) ∨ (k = 3 ∧ b_ = true)) (hts : g.txn s = some t) (htok : TxOk t) (hq : g.replies.length ≤ 100000) :
    Calls Tryz.prog 90 #[.pointer (some ⟨n, 0, none⟩), .int .i64 ((s : Nat) : Int), .pointer (some ⟨n, 6 + s * 2, none⟩), u] w (Jb w0 F0 F n g L s (jL t ⟨r.name, r.key, b_, r.last⟩)) := by
 obtain ⟨_, _, _, _, rfl, q0, q1, q2, q3⟩ := hv
 obtain ⟨a0, c0, rfl, _⟩ := q0.shape
 obtain ⟨a1, c1, rfl, _⟩ := q1.shape
 obtain ⟨a2, c2, rfl, _⟩ := q2.shape
 obtain ⟨a3, c3, rfl, _⟩ := q3.shape
 obtain ⟨ad, cd, ac, cc, af, cf, aw, cw, ar, cr, pv, S, hd, ht⟩ := hM
 have hb := ht s hs8
 rw [hts] at hb
 obtain ⟨b, x0, y0, x1, y1, hp, b0, b1, b2, r0, r1⟩ := hb
 go_enter Tryz.func90, Tryz.ntmps90
 refine sk fun K4 hK4 => ?_
 refine bH S (v := fun n => .pointer (aA n 0)) rfl (bX (v := (.agg #[(nI k), (.slice a0 r.name.length c0), (.slice a1 r.key.length c1), (.slice a2 r.last.length c2), (.slice a3 r.value.length c3)])) rfl) (fun n5 w6 S7 => ?_)
 refine dy ?_
 refine wn hK4 ?_
 refine sk fun K8 hK8 => ?_
 refine dR S7 0 Tryz.underlying27 (bG) ?_
 refine aR S7 rfl (fn1 (Dj _ _)) (LC _ _ _ k r (S7).sat (hh.below S7.gr.below) ⟨_, _, _, _, rfl, q0, q1, q2, q3⟩ ok hk) ?_
 intro m8 w9 h9 i9 a4 j0
 obtain ⟨_, rfl, j1⟩ := j0
 obtain ⟨a5, a6, a7, a8, a9, b3, rfl, i0, i1, i2⟩ := j1
 refine aC ?_
 refine sA i9 (tQ _) fun i3 m9 j2 => ?_
 refine sW 0 j2 (dS) fun i4 b4 => ?_
 refine dy ?_
 simp only [pq]
 refine wn hK8 ?_
 refine aE fun n0 e2 => ?_
 cases hn : jL t (⟨r.name, r.key, b_, r.last⟩ : Rd) with
 | none =>
  refine lO h9 [0, 1, 2, 3, 4, 5, 6, 7, 8, 9, 11] 10 12 [13] [(7, .made (fun F' u => TxE F' u jW 11)), (9, .made (fun F' u => TxV F' u jW)), (11, .rel (NewAt i4 [(iI 0), Zn, Zn] 141) (NewAt.stable _ _ _)), (10, .is (iI 11))] (by kernel_rfl) (by kernel_rfl) rfl rfl rfl rfl ?_
  simp only [gB, zZq, zZp, List.map_cons, List.map_nil]
  refine bV rfl rfl (pP n (6 + s * 2)) (fun c4 b5 => aM (fR _)) ?_
  simp only [pq]
  refine bV rfl rfl (pP n (6 + s * 2)) (fun c4 b5 => aM (mP rfl)) ?_
  simp only [pq]
  refine bV rfl rfl (pP n (6 + s * 2)) (fun c4 b5 => aM (ef (eN _ _))) ?_
  simp only [pq]
  refine bV rfl rfl (pP b 0) (fun c4 b5 => aM (aD rfl (aQ (eQ _) (St.cell (St.tells b4 b5) (i := 2) rfl ((eV hs8).trans (congrArg some hp)))))) ?_
  simp only [pq]
  refine bV rfl rfl (pP b 0) (fun c4 b5 => aM (mP rfl)) ?_
  simp only [pq]
  refine bV rfl rfl (.agg #[(.int .i64 t.start), (.slice x0 t.reads.length y0), (.slice x1 t.writes.length y1)]) (fun c4 b5 => aM (aD rfl (jC (cs := [(.int .i64 t.start), (.slice x0 t.reads.length y0), (.slice x1 t.writes.length y1)]) Tryz.underlying141 rfl (bB) (rV (St.fz (St.tells b4 b5) (Le.cell a4 b0)) (St.fz (St.tells b4 b5) (Le.cell a4 b1)) (St.fz (St.tells b4 b5) (Le.cell a4 b2)))))) ?_
  simp only [pq]
  refine bV rfl rfl (.agg #[(.slice a5 r.name.length a6), (.slice a7 r.key.length a8), (.bool b_), (.slice a9 r.last.length b3)]) (fun c4 b5 => aM (aD rfl (jC (cs := [(.slice a5 r.name.length a6), (.slice a7 r.key.length a8), (.bool b_), (.slice a9 r.last.length b3)]) Tryz.underlying179 rfl (dS) (St.range (St.tells b4 b5) (i := 0) rfl 0 [(.slice a5 r.name.length a6), (.slice a7 r.key.length a8), (.bool b_), (.slice a9 r.last.length b3)] (dI 0 rfl))))) ?_
  simp only [pq]
  refine lE rfl rfl (fun c4 b5 hF => bQ (cB (vs := #[(.agg #[(.int .i64 t.start), (.slice x0 t.reads.length y0), (.slice x1 t.writes.length y1)]), (.agg #[(.slice a5 r.name.length a6), (.slice a7 r.key.length a8), (.bool b_), (.slice a9 r.last.length b3)])]) (gK rfl rfl) rfl (BW _ _)) (dQ b4.sat b5 (FE _ _ _ _ t (⟨r.name, r.key, b_, r.last⟩ : Rd) ((St.tells b4 b5)).sat ⟨_, _, _, _, rfl, (r0.mono a4), (r1.mono a4)⟩ ⟨_, _, _, _, _, _, rfl, i0, i1, i2⟩ htok (UD ok hk) hn))) (fun j3 => ?_)
  simp only [pq]
  refine bV rfl rfl j3 (fun c4 b5 => aM (fR _)) ?_
  simp only [pq]
  refine lE rfl rfl (fun c4 b5 hF_ => ?_) (fun n1 => ?_)
  obtain ⟨j4, j5, _, rfl, f4⟩ := hF_.get 7 (by kernel_rfl) rfl rfl
  exact iD (cC rfl rfl) ⟨j4, j5, f4⟩ (Below.refl _ _)
  simp only [pq]
  refine lE rfl rfl (fun c4 b5 _ => jU (cs := [(iI 0), Zn, Zn]) (gT _) rfl b5) (fun n2 => ?_)
  simp only [pq]
  refine zK (HS rfl rfl (v := (iI 11)) (fun c4 b5 hF_ => ?_) ?_)
  obtain ⟨n3, n4, _, rfl, j6⟩ := hF_.get 7 (by kernel_rfl) rfl rfl
  exact fun w1 => aM (cC rfl rfl)
  intro n6 j7 d7
  obtain ⟨j8, rfl, e3, e4⟩ := d7.getR 11 rfl rfl
  have d8 : ∀ u ∈ [(.int .i64 0), (.slice none 0 0), (.slice none 0 0)], ∀ x, u ≠ bv x := by intro u hu x; simp only [zZk, List.not_mem_nil, or_false] at hu; rcases hu with rfl | rfl | rfl <;> (unfold bv; simp)
  obtain ⟨j9, i5, k0⟩ := d7.get 9 rfl rfl
  have i6 := i5.dropF b4.sat e3
  have k1 := TxV.dropT i5.sat e4 d8 k0
  have k2 := St.addBlk (cs := [(.int .i64 0), (.slice none 0 0), (.slice none 0 0)]) b4 i6 e3 (oX _ _) e4
  have d9 : Le _ _ := i6.le b4.sat
  have k3 := k1
  generalize (dropF j9 j8) = n7 at *
  obtain ⟨f5, f6, f7, f8, rfl, n8, n9⟩ := k3
  clear d7
  refine zM (i := 0) (v := (.agg #[(.int .i64 jW.start), (.slice f5 jW.reads.length f6), (.slice f7 jW.writes.length f8)])) k2 rfl rfl rfl (bB) (SM rfl rfl rfl) (Nat.le_of_ble_eq_true rfl) (fun o0 k4 => ?_)
  refine dy ?_
  simp only [pq]
  refine wlK e2 ?_
  refine aE fun o1 k5 => ?_
  refine sk fun o2 f9 => ?_
  refine dx ?_
  refine dr bT (cH (b := true) rfl rfl (by decide)) ?_
  refine wn f9 ?_
  refine aI ?_
  refine sk fun o3 g0 => ?_
  refine aC ?_
  have k6 := St.perm k4 (List.perm_middle (l₁ := [_, _, _]))
  have g1 : EngM _ _ _ _ n g _ := ⟨_, _, _, _, _, _, _, _, _, _, _, k6, (hd.mono (a4.trans d9)), (eG ht (a4.trans d9))⟩
  refine doC rfl (fn3 (mD _ _)) (iF _ _ _ _ _ _ _ s 11 g1 hq) ?_
  rintro _ o4 ⟨rfl, o5, g2, g3⟩
  refine ⟨_, rfl, ?_⟩
  obtain ⟨k7, k8, k9, l0, l1, l2, l3, l4, l5, l6, l7, l8, g4, g5⟩ := g3
  refine wn g0 ?_
  refine sk fun o6 g6 => ?_
  refine dy ?_
  refine wn g6 ?_
  refine aO ?_
  try simp only [xt]
  refine bR (bA rfl (gD rfl)) ?_
  have g7 : EngM _ _ _ _ n (g.reply (fQ s 11)) _ := ⟨_, _, _, _, _, _, _, _, _, _, _, l8, g4, g5⟩
  refine ⟨_, ((a4.trans d9).trans g2), ?_⟩
  rw [hn]
  exact ⟨rfl, (g7.drop (.cons _ (.cons _ (.cons _ (zZd _)))))⟩
 | some nx =>
  refine lO h9 [0, 1, 2, 3, 4, 5, 6, 7, 8, 9, 11] 10 12 [13] [(7, .made (fun F' u => TxE F' u nx 0)), (9, .made (fun F' u => TxV F' u nx)), (11, .rel (NewAt i4 [(iI 0), Zn, Zn] 141) (NewAt.stable _ _ _)), (10, .is (iI 0))] (by kernel_rfl) (by kernel_rfl) rfl rfl rfl rfl ?_
  simp only [gB, zZq, zZp, List.map_cons, List.map_nil]
  refine bV rfl rfl (pP n (6 + s * 2)) (fun c5 b6 => aM (fR _)) ?_
  simp only [pq]
  refine bV rfl rfl (pP n (6 + s * 2)) (fun c5 b6 => aM (mP rfl)) ?_
  simp only [pq]
  refine bV rfl rfl (pP n (6 + s * 2)) (fun c5 b6 => aM (ef (eN _ _))) ?_
  simp only [pq]
  refine bV rfl rfl (pP b 0) (fun c5 b6 => aM (aD rfl (aQ (eQ _) (St.cell (St.tells b4 b6) (i := 2) rfl ((eV hs8).trans (congrArg some hp)))))) ?_
  simp only [pq]
  refine bV rfl rfl (pP b 0) (fun c5 b6 => aM (mP rfl)) ?_
  simp only [pq]
  refine bV rfl rfl (.agg #[(.int .i64 t.start), (.slice x0 t.reads.length y0), (.slice x1 t.writes.length y1)]) (fun c5 b6 => aM (aD rfl (jC (cs := [(.int .i64 t.start), (.slice x0 t.reads.length y0), (.slice x1 t.writes.length y1)]) Tryz.underlying141 rfl (bB) (rV (St.fz (St.tells b4 b6) (Le.cell a4 b0)) (St.fz (St.tells b4 b6) (Le.cell a4 b1)) (St.fz (St.tells b4 b6) (Le.cell a4 b2)))))) ?_
  simp only [pq]
  refine bV rfl rfl (.agg #[(.slice a5 r.name.length a6), (.slice a7 r.key.length a8), (.bool b_), (.slice a9 r.last.length b3)]) (fun c5 b6 => aM (aD rfl (jC (cs := [(.slice a5 r.name.length a6), (.slice a7 r.key.length a8), (.bool b_), (.slice a9 r.last.length b3)]) Tryz.underlying179 rfl (dS) (St.range (St.tells b4 b6) (i := 0) rfl 0 [(.slice a5 r.name.length a6), (.slice a7 r.key.length a8), (.bool b_), (.slice a9 r.last.length b3)] (dI 0 rfl))))) ?_
  simp only [pq]
  refine lE rfl rfl (fun c5 b6 hF => bQ (cB (vs := #[(.agg #[(.int .i64 t.start), (.slice x0 t.reads.length y0), (.slice x1 t.writes.length y1)]), (.agg #[(.slice a5 r.name.length a6), (.slice a7 r.key.length a8), (.bool b_), (.slice a9 r.last.length b3)])]) (gK rfl rfl) rfl (BW _ _)) (dQ b4.sat b6 (pF _ _ _ _ t (⟨r.name, r.key, b_, r.last⟩ : Rd) nx ((St.tells b4 b6)).sat ⟨_, _, _, _, rfl, (r0.mono a4), (r1.mono a4)⟩ ⟨_, _, _, _, _, _, rfl, i0, i1, i2⟩ htok (UD ok hk) hn))) (fun l9 => ?_)
  simp only [pq]
  refine bV rfl rfl l9 (fun c5 b6 => aM (fR _)) ?_
  simp only [pq]
  refine lE rfl rfl (fun c5 b6 hF_ => ?_) (fun o7 => ?_)
  obtain ⟨m0, m1, _, rfl, g8⟩ := hF_.get 7 (by kernel_rfl) rfl rfl
  exact iD (cC rfl rfl) ⟨m0, m1, g8⟩ (Below.refl _ _)
  simp only [pq]
  refine lE rfl rfl (fun c5 b6 _ => jU (cs := [(iI 0), Zn, Zn]) (gT _) rfl b6) (fun o8 => ?_)
  simp only [pq]
  refine zK (HS rfl rfl (v := (iI 0)) (fun c5 b6 hF_ => ?_) ?_)
  obtain ⟨o9, p0, _, rfl, i7⟩ := hF_.get 7 (by kernel_rfl) rfl rfl
  exact fun w1 => aM (cC rfl rfl)
  intro m2 i8 c6
  obtain ⟨b9, rfl, d5, d6⟩ := c6.getR 11 rfl rfl
  have d3 : ∀ u ∈ [(.int .i64 0), (.slice none 0 0), (.slice none 0 0)], ∀ x, u ≠ bv x := by intro u hu x; simp only [zZk, List.not_mem_nil, or_false] at hu; rcases hu with rfl | rfl | rfl <;> (unfold bv; simp)
  obtain ⟨g9, e5, h0⟩ := c6.get 9 rfl rfl
  have e6 := e5.dropF b4.sat d5
  have h1 := TxV.dropT e5.sat d6 d3 h0
  have h2 := St.addBlk (cs := [(.int .i64 0), (.slice none 0 0), (.slice none 0 0)]) b4 e6 d5 (oX _ _) d6
  have c7 : Le _ _ := e6.le b4.sat
  have h3 := h1
  generalize (dropF g9 b9) = e0 at *
  obtain ⟨c8, c9, d0, d1, rfl, h4, h5⟩ := h3
  clear c6
  refine zM (i := 0) (v := (.agg #[(.int .i64 nx.start), (.slice c8 nx.reads.length c9), (.slice d0 nx.writes.length d1)])) h2 rfl rfl rfl (bB) (SM rfl rfl rfl) (Nat.le_of_ble_eq_true rfl) (fun h6 e1 => ?_)
  have e1 : St w0 F0 h6 e0 (⟨b9, [(.int .i64 nx.start), (.slice c8 nx.reads.length c9), (.slice d0 nx.writes.length d1)], 141⟩ :: ⟨i3, [(.slice a5 r.name.length a6), (.slice a7 r.key.length a8), (.bool b_), (.slice a9 r.last.length b3)], 179⟩ :: ⟨n5, [(nI k), (.slice a0 r.name.length c0), (.slice a1 r.key.length c1), (.slice a2 r.last.length c2), (.slice a3 r.value.length c3)], 27⟩ :: ⟨n, mY g.up (.slice ad g.tape.data.length cd) g.tape.synced (.slice ac g.commits.length cc) (.slice af g.forests.length cf) g.synced pv g.waits (.slice aw g.waiting.length cw) (.slice ar g.replies.length cr), 115⟩ :: L) (pQ w0.heap.size (.slice ac g.commits.length cc) g.commits (.slice af g.forests.length cf) g.forests (.slice aw g.waiting.length cw) g.waiting (.slice ar g.replies.length cr) g.replies) := e1
  refine dy ?_
  simp only [pq]
  refine wlK e2 ?_
  refine aE fun m3 e7 => ?_
  refine sk fun m4 e8 => ?_
  refine dx ?_
  refine dr bF (cH (b := false) rfl rfl (by decide)) ?_
  refine wn e8 ?_
  refine aF ?_
  refine aH ?_
  refine e7 _ _ ?_
  refine sk fun m5 e9 => ?_
  refine aC ?_
  refine fZ (i := 3) (v := (pP b9 0)) e1 rfl rfl rfl rfl (oT) (mL rfl) (by rw [mF]; simp only [Value.cells]; exact Nat.le_of_lt_succ (by simp only [List.size_toArray, zZg, zZj]; omega)) (fun f0 d4 => ?_)
  simp only [pq]
  have d4 : St w0 F0 f0 e0 (⟨b9, [(.int .i64 nx.start), (.slice c8 nx.reads.length c9), (.slice d0 nx.writes.length d1)], 141⟩ :: ⟨i3, [(.slice a5 r.name.length a6), (.slice a7 r.key.length a8), (.bool b_), (.slice a9 r.last.length b3)], 179⟩ :: ⟨n5, [(nI k), (.slice a0 r.name.length c0), (.slice a1 r.key.length c1), (.slice a2 r.last.length c2), (.slice a3 r.value.length c3)], 27⟩ :: ⟨n, cK (mY g.up (.slice ad g.tape.data.length cd) g.tape.synced (.slice ac g.commits.length cc) (.slice af g.forests.length cf) g.synced pv g.waits (.slice aw g.waiting.length cw) (.slice ar g.replies.length cr)) (6 + s * 2) [(pP b9 0)], 115⟩ :: L) (pQ w0.heap.size (.slice ac g.commits.length cc) g.commits (.slice af g.forests.length cf) g.forests (.slice aw g.waiting.length cw) g.waiting (.slice ar g.replies.length cr) g.replies) := d4
  rw [pO hs8] at d4
  refine wn e9 ?_
  refine sk fun m6 f1 => ?_
  refine dy ?_
  refine wn f1 ?_
  refine aO ?_
  try simp only [xt]
  refine bR (bA rfl (gD rfl)) ?_
  obtain ⟨h7, b7, d2⟩ := St.freezeBlk d4 (i := 0) rfl
  generalize addF e0 f0 b9 = m7 at *
  have f2 := sQ (x := .pointer (some ⟨b9, 0, none⟩)) (t := some nx) (eG ht ((a4.trans c7).trans b7)) ⟨_, _, _, _, _, rfl, d2 0 _ rfl, d2 1 _ rfl, d2 2 _ rfl, (h4.mono b7), (h5.mono b7)⟩ s
  have h8 := St.perm h7 (List.perm_middle (l₁ := [_, _]))
  have f3 : EngM _ _ _ _ n (g.setTxn s (some nx)) _ := ⟨_, _, _, _, _, _, _, _, _, _, _, h8, (hd.mono ((a4.trans c7).trans b7)), f2⟩
  refine ⟨_, ((a4.trans c7).trans b7), ?_⟩
  rw [hn]
  exact ⟨rfl, (f3.drop (.cons _ (.cons _ (zZd _))))⟩
open Go.RowKit
set_option maxRecDepth 100000
set_option linter.unusedVariables false
set_option linter.unusedSimpArgs false
theorem vZ {w0 w : World} {F0 F : Fz} {L : List Blk} {M : List RowP} {hR : ∀ F F' x p, Le F F' → CmC F x p → CmC F' x p} {E base i : Nat} {v u : Value} {t : Tx} {cs : List Cm} {b : Bool} (S : St w0 F0 w F L M) (h : M[i]? = some (cU 2 CmC hR E base u cs)) (hv : TxV F v t) (ht : TxOk t) (hcs : ∀ c ∈ cs, CmOk c) (hb : rT t.start t.reads cs = b) :
    Calls Tryz.prog 109 #[v, u] w (cT w (.tuple #[.bool b, .int .i64 0])) := by
 obtain ⟨F', h1, h2, h3⟩ := oR S h
 have := QV F' w v u t cs h1 (hv.mono h2) h3 (fun c hc => by have := (hcs c hc).some.2; omega) (fun r hr => (ht.writes r hr).small)
 rwa [EP, zZa (by rw [nR.2 ht]; decide), hb, nR.2 ht] at this
theorem RT {f g : aW} {ws : List Wr} (hw : ∀ w ∈ ws, WrOk w) (hl : ws.length ≤ 10) (h : lV f ws = some g) : gV f ws = (0, g) := by
 unfold gV; rw [zZa (by omega), rC hw, h]
theorem WY {f : aW} {ws : List Wr} (hw : ∀ w ∈ ws, WrOk w) (hl : ws.length ≤ 10) (h : lV f ws = none) : gV f ws = (11, []) := by
 unfold gV; rw [zZa (by omega), rC hw, h]
theorem vP {m : Nat} {g : Eng} (h : EngOk m g) {k : Nat} (hk : k ≤ g.commits.length) : g.forests[k]? = some (g.forest k) := by
 have := h.states
 unfold Eng.forest
 rw [List.getD_eq_getElem?_getD, zZc (by omega)]
 rfl
theorem vQ {m : Nat} {g : Eng} (h : EngOk m g) {k : Nat} (hk : k ≤ g.commits.length) : ForestOk 60 (g.forest k) := by rw [h.state k hk]; exact h.ok k hk
theorem RU (w0 : World) (F0 : Fz) (w : World) (F : Fz) (n : Nat) (g : Eng) (L : List Blk) {m : Nat} (s : Nat) (hs8 : s < 8) (t : Tx) (hM : EngM w0 F0 w F n g L) (hT : Tabs w0) (hg : EngOk m g) (hm : m ≤ 149) (hts : g.txn s = some t) (hq : g.replies.length ≤ 100000) :
    Calls Tryz.prog 92 #[.pointer (some ⟨n, 0, none⟩), .int .i64 ((s : Nat) : Int), .pointer (some ⟨n, 6 + s * 2, none⟩)] w (wV w0 F0 F n (g.commit s t) L) := by
 obtain ⟨ad, cd, ac, cc, af, cf, aw, cw, ar, cr, pv, S, hd, ht⟩ := hM
 have hb := ht s hs8
 rw [hts] at hb
 obtain ⟨b, x0, y0, x1, y1, hp, b0, b1, b2, r0, r1⟩ := hb
 have htok := (hg.txns s t hts).1
 have hsy := hg.sync
 have hmy := hg.many
 have hst := hg.states
 have hx1 := htok.nw
 have hx2 := htok.nr
 have htl : g.tape.data.length ≤ 90000 := by have := sM hg.hist.ok; rw [hg.data]; omega
 have hts2 := hg.syn
 obtain ⟨i3, hi3, hz3, hs3, hb3⟩ := info_parts Ib
 obtain ⟨u0, f6, f7, f8, f9⟩ := info_parts UI
 obtain ⟨g0, d4, d5, d6, d7⟩ := info_parts MC
 go_enter Tryz.func92, Tryz.ntmps92
 refine sk fun K4 hK4 => ?_
 refine aC ?_
 refine dr _ (aD rfl (aQ (eQ _) (St.cell S (i := 0) rfl ((eV hs8).trans (congrArg some hp))))) ?_
 refine di ?_
 refine dr _ (aD rfl (cV Tryz.underlying141 rfl (bB) (rV (St.fz S b0) (St.fz S b1) (St.fz S b2)))) ?_
 simp only [pq]
 refine sA S (gT _) fun n5 w6 S7 => ?_
 refine sW 0 S7 (bB) fun w8 S9 => ?_
 refine wn hK4 ?_
 refine aE fun fb l8 => ?_
 refine sk fun fc g1 => ?_
 refine aC ?_
 by_cases g2 : t.writes.length = 0
 refine iA ?_
 refine wn g1 ?_
 refine aI ?_
 refine sk fun fd l9 => ?_
 refine aC ?_
 refine fZ (i := 1) (v := (.pointer none)) S9 rfl rfl rfl rfl (oT) (mL rfl) (by rw [mF]; simp only [Value.cells]; exact Nat.le_of_lt_succ (by simp only [List.size_toArray, zZg, zZj]; omega)) (fun x3 l6 => ?_)
 simp only [pq]
 have l6 : St w0 F0 x3 F (⟨n5, [(.int .i64 t.start), (.slice x0 t.reads.length y0), (.slice x1 t.writes.length y1)], 141⟩ :: ⟨n, cK (mY g.up (.slice ad g.tape.data.length cd) g.tape.synced (.slice ac g.commits.length cc) (.slice af g.forests.length cf) g.synced pv g.waits (.slice aw g.waiting.length cw) (.slice ar g.replies.length cr)) (6 + s * 2) [(.pointer none)], 115⟩ :: L) (pQ w0.heap.size (.slice ac g.commits.length cc) g.commits (.slice af g.forests.length cf) g.forests (.slice aw g.waiting.length cw) g.waiting (.slice ar g.replies.length cr) g.replies) := l6
 rw [pO hs8] at l6
 refine wn l9 ?_
 refine aE fun fe m0 => ?_
 have m1 := sQ (x := .pointer none) (t := none) ht rfl s
 refine aB ?_
 refine aC ?_
 refine dr (.agg #[(nI s), (iI 0), (.int .i64 t.start), bF, Zn, Zn, Zn, bF, Zn, Zn, Zn, bF, Zn, Zn, Zn]) (aK (fD rfl rfl) (by kernel_rfl)) ?_
 simp only [pq]
 have x4 := St.perm l6 (List.perm_middle (l₁ := [_]))
 have m2 : EngM _ _ _ _ n (g.setTxn s none) _ := ⟨_, _, _, _, _, _, _, _, _, _, _, x4, hd, m1⟩
 refine doC rfl (fn2 (qL _ _)) (kG _ _ _ _ _ _ _ _ _ m2 (RpV.turn _ s t.start) hq) ?_
 rintro _ ff ⟨rfl, fg, m3, m4⟩
 refine ⟨_, rfl, ?_⟩
 obtain ⟨x5, x6, x7, x8, x9, y2, y3, y4, y5, y6, y7, y8, m5, m6⟩ := m4
 refine wlK m0 ?_
 refine aO ?_
 try simp only [xt]
 refine bR (iV rfl) ?_
 have m7 : EngM _ _ _ _ n ((g.setTxn s none).reply (BJ s t.start)) _ := ⟨_, _, _, _, _, _, _, _, _, _, _, y8, m5, m6⟩
 rw [show g.commit s t = ((g.setTxn s none).reply (BJ s t.start)) from by unfold Eng.commit; rw [zZb (List.eq_nil_of_length_eq_zero (by omega))]]
 exact ⟨rfl, _, m3, (m7.drop (.cons _ (zZd _)))⟩
 refine gH ?_
 refine wn g1 ?_
 refine aF ?_
 refine aH ?_
 refine l8 _ _ ?_
 refine aE fun fh m8 => ?_
 refine aE fun fi g3 => ?_
 have hw : t.writes ≠ [] := by intro e; rw [e] at g2; exact g2 rfl
 by_cases h6 : g.commits.length - g.synced = 6
 refine aP F 9 [] (by kernel_rfl) (by kernel_rfl) ?_
 simp only [dA]
 refine gm ?_
 refine gi ?_
 simp only [pq]
 refine gf (iB _ _) ?_
 refine gl jD S9 1 ?_
 refine gv (nI g.commits.length) (fun _ _ => oO Tryz.underlying109 rfl) ?_
 simp only [pq]
 refine gm ?_
 refine gi ?_
 refine gf (gU _ _) ?_
 simp only [pq]
 refine gl bM S9 1 ?_
 refine bU ?_
 intro fj m9 n0
 clear n0
 have y9 := St.tells S9 m9
 simp only [dB]
 refine XY (((g.commits.length - g.synced) : Nat) : Int) ?_
 refine iA ?_
 refine aC ?_
 refine wlK g3 ?_
 refine aI ?_
 refine sk fun fk n1 => ?_
 refine aC ?_
 have z0 := St.perm y9 (List.perm_middle (l₁ := [_]))
 have n2 : EngM _ _ _ _ n g _ := ⟨_, _, _, _, _, _, _, _, _, _, _, z0, hd, ht⟩
 refine doC rfl (fn3 (mD _ _)) (iF _ _ _ _ _ _ _ s 11 n2 hq) ?_
 rintro _ fl ⟨rfl, fm, n3, n4⟩
 refine ⟨_, rfl, ?_⟩
 obtain ⟨z1, z2, z3, z4, z5, z6, z7, z8, z9, aa, ab, ae, n6, n7⟩ := n4
 refine wn n1 ?_
 refine aO ?_
 try simp only [xt]
 refine bR (iV rfl) ?_
 have n8 : EngM _ _ _ _ n (g.reply (fQ s 11)) _ := ⟨_, _, _, _, _, _, _, _, _, _, _, ae, n6, n7⟩
 rw [show g.commit s t = (g.reply (fQ s 11)) from by unfold Eng.commit; rw [zZa hw, zZb (.inl h6)]]
 exact ⟨rfl, _, n3, (n8.drop (.cons _ (zZd _)))⟩
 refine aP F 9 [] (by kernel_rfl) (by kernel_rfl) ?_
 simp only [dA]
 refine gm ?_
 refine gi ?_
 refine gf (iB _ _) ?_
 simp only [pq]
 refine gl jD S9 1 ?_
 refine gv (nI g.commits.length) (fun _ _ => oO Tryz.underlying109 rfl) ?_
 refine gm ?_
 simp only [pq]
 refine gi ?_
 refine gf (gU _ _) ?_
 refine gl bM S9 1 ?_
 simp only [pq]
 refine bU ?_
 intro fn n9 o0
 clear o0
 have ag := St.tells S9 n9
 simp only [dB]
 refine XY (((g.commits.length - g.synced) : Nat) : Int) ?_
 refine gH ?_
 refine aC ?_
 refine gH ?_
 simp only [pq]
 refine dp ?_
 refine wlK g3 ?_
 refine aF ?_
 refine aH ?_
 refine m8 _ _ ?_
 refine aE fun fo o1 => ?_
 have hno : ¬ (g.commits.length - g.synced = 6 ∨ g.commits.length = 300) := by omega
 refine aB ?_
 refine aC ?_
 refine fZ (i := 1) (v := (.pointer none)) ag rfl rfl rfl rfl (oT) (mL rfl) (by rw [mF]; simp only [Value.cells]; exact Nat.le_of_lt_succ (by simp only [List.size_toArray, zZg, zZj]; omega)) (fun ah c1 => ?_)
 simp only [pq]
 have c1 : St w0 F0 ah F (⟨n5, [(.int .i64 t.start), (.slice x0 t.reads.length y0), (.slice x1 t.writes.length y1)], 141⟩ :: ⟨n, cK (mY g.up (.slice ad g.tape.data.length cd) g.tape.synced (.slice ac g.commits.length cc) (.slice af g.forests.length cf) g.synced pv g.waits (.slice aw g.waiting.length cw) (.slice ar g.replies.length cr)) (6 + s * 2) [(.pointer none)], 115⟩ :: L) (pQ w0.heap.size (.slice ac g.commits.length cc) g.commits (.slice af g.forests.length cf) g.forests (.slice aw g.waiting.length cw) g.waiting (.slice ar g.replies.length cr) g.replies) := c1
 rw [pO hs8] at c1
 refine wlK o1 ?_
 refine aE fun fp o2 => ?_
 refine aE fun fq g4 => ?_
 have c6 := sQ (x := .pointer none) (t := none) ht rfl s
 cases hcl : rT t.start t.reads g.commits with
 | true =>
  refine aP F 10 [(5, .is (.tuple #[bT, (iI 0)]))] (by kernel_rfl) (by kernel_rfl) ?_
  simp only [dA]
  refine gv _ (fun _ o3 => aD rfl (cV Tryz.underlying141 rfl (bB) (St.range (St.tells c1 o3) (i := 0) rfl 0 [(.int .i64 t.start), (.slice x0 t.reads.length y0), (.slice x1 t.writes.length y1)] (dI 0 rfl)))) ?_
  refine gm ?_
  refine gi ?_
  simp only [pq]
  refine gf (iB _ _) ?_
  refine gl jD c1 1 ?_
  simp only [pq]
  refine fT rfl rfl (v := (.tuple #[bT, (iI 0)])) (fun fr o3 _ => bQ (cB (vs := #[(.agg #[(.int .i64 t.start), (.slice x0 t.reads.length y0), (.slice x1 t.writes.length y1)]), (.slice ac g.commits.length cc)]) (gK rfl rfl) rfl (TC _ _)) (fE (vZ (i := 0) (t := t) (b := true) (St.tells c1 o3) rfl ⟨_, _, _, _, rfl, r0, r1⟩ htok hg.hist.ok hcl))) ?_
  refine gm ?_
  refine gv bT (fun _ _ => cC rfl rfl) ?_
  refine gv (iI 0) (fun _ _ => cC rfl rfl) ?_
  simp only [pq]
  refine ga ?_
  refine bU ?_
  intro fs o4 o5
  clear o5
  have ai := St.tells c1 o4
  simp only [dB]
  refine dy ?_
  refine wlK g4 ?_
  refine sk fun ft o6 => ?_
  refine dx ?_
  simp only [pq]
  refine wn o6 ?_
  refine aI ?_
  refine sk fun fu o7 => ?_
  refine aC ?_
  have aj := St.perm ai (List.perm_middle (l₁ := [_]))
  have o8 : EngM _ _ _ _ n (g.setTxn s none) _ := ⟨_, _, _, _, _, _, _, _, _, _, _, aj, hd, c6⟩
  refine doC rfl (fn3 (mD _ _)) (iF _ _ _ _ _ _ _ s 9 o8 hq) ?_
  rintro _ fv ⟨rfl, fw, o9, p0⟩
  refine ⟨_, rfl, ?_⟩
  obtain ⟨ak, al, am, an, ao, ap, aq, au, av, u1, u2, p1, g5, g6⟩ := p0
  refine wn o7 ?_
  refine aO ?_
  try simp only [xt]
  refine bR (iV rfl) ?_
  have g7 : EngM _ _ _ _ n ((g.setTxn s none).reply (fQ s 9)) _ := ⟨_, _, _, _, _, _, _, _, _, _, _, p1, g5, g6⟩
  rw [show g.commit s t = ((g.setTxn s none).reply (fQ s 9)) from by unfold Eng.commit; rw [zZa hw, zZa hno, zZb hcl]]
  exact ⟨rfl, _, o9, (g7.drop (.cons _ (zZd _)))⟩
 | false =>
  refine aP F 10 [(5, .is (.tuple #[bF, (iI 0)]))] (by kernel_rfl) (by kernel_rfl) ?_
  simp only [dA]
  refine gv _ (fun _ e9 => aD rfl (cV Tryz.underlying141 rfl (bB) (St.range (St.tells c1 e9) (i := 0) rfl 0 [(.int .i64 t.start), (.slice x0 t.reads.length y0), (.slice x1 t.writes.length y1)] (dI 0 rfl)))) ?_
  refine gm ?_
  refine gi ?_
  simp only [pq]
  refine gf (iB _ _) ?_
  refine gl jD c1 1 ?_
  simp only [pq]
  refine fT rfl rfl (v := (.tuple #[bF, (iI 0)])) (fun ax e9 _ => bQ (cB (vs := #[(.agg #[(.int .i64 t.start), (.slice x0 t.reads.length y0), (.slice x1 t.writes.length y1)]), (.slice ac g.commits.length cc)]) (gK rfl rfl) rfl (TC _ _)) (fE (vZ (i := 0) (t := t) (b := false) (St.tells c1 e9) rfl ⟨_, _, _, _, rfl, r0, r1⟩ htok hg.hist.ok hcl))) ?_
  refine gm ?_
  refine gv bF (fun _ _ => cC rfl rfl) ?_
  refine gv (iI 0) (fun _ _ => cC rfl rfl) ?_
  simp only [pq]
  refine ga ?_
  refine bU ?_
  intro p2 g8 g9
  clear g9
  have c2 := St.tells c1 g8
  simp only [dB]
  refine dy ?_
  refine wlK g4 ?_
  refine sk fun ay h0 => ?_
  refine dx ?_
  simp only [pq]
  refine wn h0 ?_
  refine aF ?_
  refine aH ?_
  refine o2 _ _ ?_
  refine aE fun az h1 => ?_
  refine aP F 10 [(9, .rel (NewAt p2 [(iI 0), Zn] 168) (NewAt.stable _ _ _))] (by kernel_rfl) (by kernel_rfl) ?_
  simp only [dA]
  refine gm ?_
  refine gi ?_
  refine gf (iB _ _) ?_
  simp only [pq]
  refine gl jD c2 1 ?_
  refine gv (nI g.commits.length) (fun _ _ => oO Tryz.underlying109 rfl) ?_
  refine gv (nI (g.commits.length + 1)) (fun _ _ => gG (m := ((g.commits.length : Nat) : Int)) (n := (1 : Int)) (r := (((g.commits.length + 1) : Nat) : Int)) rfl rfl (by omega) (by omega) (by omega)) ?_
  simp only [pq]
  refine gf (xW _ _) ?_
  refine gl xS c2 0 ?_
  refine gv (.agg #[(nI (g.commits.length + 1)), (.slice x1 t.writes.length y1)]) (fun _ _ => aK (ps := #[(0, (nI (g.commits.length + 1))), (1, (.slice x1 t.writes.length y1))]) (fD rfl rfl) (by kernel_rfl)) ?_
  simp only [pq]
  refine eE rfl rfl (fun ba p3 _ => jU (cs := [(iI 0), Zn]) (tR _) rfl p3) (fun bb => ?_)
  refine bU ?_
  intro bc h2 d8
  obtain ⟨f0, rfl, d9, h3⟩ := d8.getR 9 rfl rfl
  have l7 : ∀ u ∈ [(.int .i64 0), (.slice none 0 0)], ∀ x, u ≠ bv x := by intro u hu x; simp only [zZk, List.not_mem_nil, or_false] at hu; rcases hu with rfl | rfl <;> (unfold bv; simp)
  clear d8
  have p4 := St.addBlk (cs := [(.int .i64 0), (.slice none 0 0)]) c2 (Gr.of_below c2.sat h2) d9 (c2.sat.out d9) h3
  simp only [dB]
  refine sW 0 p4 (fA) fun bd a3 => ?_
  simp only [pq]
  refine wlK h1 ?_
  refine aE fun be e0 => ?_
  have hfa := vP hg (zZe _)
  have hfo := vQ hg (zZe _)
  obtain ⟨h4, e1, e2, e3, h5, h7⟩ := UJ (a3.own (i := 1) rfl) hfa
  cases hap : lV (g.forest g.commits.length) t.writes with
  | none =>
   refine aP F 18 [(13, .made (fun F' u => ZB [] 11 F' u)), (15, .made (fun F' u => Tns F' u [])), (16, .is (iI 11))] (by kernel_rfl) (by kernel_rfl) ?_
   simp only [dA]
   refine gm ?_
   refine gi ?_
   refine gf (nF _ _) ?_
   simp only [pq]
   refine gl oS a3 2 ?_
   refine gm ?_
   refine gi ?_
   simp only [pq]
   refine gf (iB _ _) ?_
   refine gl jD a3 2 ?_
   refine gv (nI g.commits.length) (fun _ _ => oO Tryz.underlying109 rfl) ?_
   simp only [pq]
   refine gv (pP h4 (0 + g.commits.length * 1)) (fun _ _ => bN (i := g.commits.length) (sz := 1) Tryz.underlying106 (oE _) rfl e1 rfl (by omega) rfl) ?_
   refine gv _ (fun _ b6 => aD rfl (aQ (uV _) (rB b6 h5))) ?_
   refine gf (tS _ _) ?_
   simp only [pq]
   refine gl xS a3 0 ?_
   simp only [pq]
   refine eE rfl rfl (fun h8 b6 hF => bQ (cB (vs := #[(.slice e2 (g.forest g.commits.length).length e3), (.slice x1 t.writes.length y1)]) (gK rfl rfl) rfl (zG _ _)) (dQ a3.sat b6 (yI ((St.tells a3 b6)).sat h7 r1 hfo htok.writes (WY htok.writes htok.nw hap)))) (fun bf => ?_)
   refine gm ?_
   simp only [pq]
   refine eE rfl rfl (fun h8 b6 hF_ => ?_) (fun bg => ?_)
   obtain ⟨p5, p6, _, rfl, h9⟩ := hF_.get 13 (by kernel_rfl) rfl rfl
   exact iD (cC rfl rfl) ⟨p5, p6, h9⟩ (Below.refl _ _)
   simp only [pq]
   refine fT rfl rfl (v := (iI 11)) (fun h8 b6 hF_ => ?_) ?_
   obtain ⟨bh, bi, _, rfl, u3⟩ := hF_.get 13 (by kernel_rfl) rfl rfl
   exact yU (cC rfl rfl)
   refine ga ?_
   refine bU ?_
   intro bj u4 e4
   obtain ⟨p7, i0, p8⟩ := e4.get 15 rfl rfl
   have p9 := St.gives a3 i0
   have c3 : Le _ _ := i0.le a3.sat
   have f1 := p8
   generalize p7 = bk at *
   obtain ⟨q0, q1, rfl, bl, bm⟩ := Sl.shape f1
   have f1 : Tns _ (.slice q0 ([] : aW).length q1) [] := f1
   clear e4
   simp only [dB]
   refine dy ?_
   simp only [pq]
   refine wlK e0 ?_
   refine aE fun bn u5 => ?_
   refine sk fun bo i1 => ?_
   refine dx ?_
   refine dr bT (cH (b := true) rfl rfl (by decide)) ?_
   refine wn i1 ?_
   refine aI ?_
   refine sk fun bp i2 => ?_
   refine aC ?_
   have q2 := St.perm p9 (List.perm_middle (l₁ := [_, _]))
   have i4 : EngM _ _ _ _ n (g.setTxn s none) _ := ⟨_, _, _, _, _, _, _, _, _, _, _, q2, (hd.mono c3), (eG c6 c3)⟩
   refine doC rfl (fn3 (mD _ _)) (iF _ _ _ _ _ _ _ s 11 i4 hq) ?_
   rintro _ bq ⟨rfl, br, i5, i6⟩
   refine ⟨_, rfl, ?_⟩
   obtain ⟨u6, u7, u8, u9, v0, v1, v2, v3, v4, v5, v6, q3, i7, i8⟩ := i6
   refine wn i2 ?_
   refine aO ?_
   try simp only [xt]
   refine bR (iV rfl) ?_
   have i9 : EngM _ _ _ _ n ((g.setTxn s none).reply (fQ s 11)) _ := ⟨_, _, _, _, _, _, _, _, _, _, _, q3, i7, i8⟩
   rw [show g.commit s t = ((g.setTxn s none).reply (fQ s 11)) from by unfold Eng.commit; rw [zZa hw, zZa hno, zZa (by rw [hcl]; decide), hap]]
   exact ⟨rfl, _, (c3.trans i5), (i9.drop (.cons _ (.cons _ (zZd _))))⟩
  | some f =>
   refine aP F 18 [(13, .made (fun F' u => ZB f 0 F' u)), (15, .made (fun F' u => Tns F' u f)), (16, .is (iI 0))] (by kernel_rfl) (by kernel_rfl) ?_
   simp only [dA]
   refine gm ?_
   refine gi ?_
   refine gf (nF _ _) ?_
   simp only [pq]
   refine gl oS a3 2 ?_
   refine gm ?_
   refine gi ?_
   simp only [pq]
   refine gf (iB _ _) ?_
   refine gl jD a3 2 ?_
   refine gv (nI g.commits.length) (fun _ _ => oO Tryz.underlying109 rfl) ?_
   simp only [pq]
   refine gv (pP h4 (0 + g.commits.length * 1)) (fun _ _ => bN (i := g.commits.length) (sz := 1) Tryz.underlying106 (oE _) rfl e1 rfl (by omega) rfl) ?_
   refine gv _ (fun _ b7 => aD rfl (aQ (uV _) (rB b7 h5))) ?_
   refine gf (tS _ _) ?_
   simp only [pq]
   refine gl xS a3 0 ?_
   simp only [pq]
   refine eE rfl rfl (fun j0 b7 hF => bQ (cB (vs := #[(.slice e2 (g.forest g.commits.length).length e3), (.slice x1 t.writes.length y1)]) (gK rfl rfl) rfl (zG _ _)) (dQ a3.sat b7 (yI ((St.tells a3 b7)).sat h7 r1 hfo htok.writes (RT htok.writes htok.nw hap)))) (fun bs => ?_)
   refine gm ?_
   simp only [pq]
   refine eE rfl rfl (fun j0 b7 hF_ => ?_) (fun bt => ?_)
   obtain ⟨q4, q5, _, rfl, j1⟩ := hF_.get 13 (by kernel_rfl) rfl rfl
   exact iD (cC rfl rfl) ⟨q4, q5, j1⟩ (Below.refl _ _)
   simp only [pq]
   refine fT rfl rfl (v := (iI 0)) (fun j0 b7 hF_ => ?_) ?_
   obtain ⟨bu, bw, _, rfl, v7⟩ := hF_.get 13 (by kernel_rfl) rfl rfl
   exact yU (cC rfl rfl)
   refine ga ?_
   refine bU ?_
   intro q6 v8 e5
   obtain ⟨q7, j2, q8⟩ := e5.get 15 rfl rfl
   have a7 := St.gives a3 j2
   have a2 : Le _ _ := j2.le a3.sat
   have a8 := q8
   generalize q7 = q9 at *
   obtain ⟨a9, b3, rfl, bx, bz⟩ := Sl.shape a8
   have a8 : Tns _ (.slice a9 f.length b3) f := a8
   clear e5
   simp only [dB]
   refine dy ?_
   simp only [pq]
   refine wlK e0 ?_
   refine aE fun ca j3 => ?_
   refine sk fun cb j4 => ?_
   refine dx ?_
   refine dr bF (cH (b := false) rfl rfl (by decide)) ?_
   refine wn j4 ?_
   refine aF ?_
   refine aH ?_
   refine j3 _ _ ?_
   refine aE fun ce j5 => ?_
   have hcm : CmOk (⟨g.commits.length + 1, t.writes⟩ : Cm) := ⟨⟨by simp, by simp only; omega⟩, ⟨Au htok hw, htok.nw⟩, htok.writes⟩
   refine lO q9 [0, 1, 2, 3, 4, 5, 6, 7, 9] 8 10 [11] [(5, .made (fun F' u => Eu (⟨g.tape.data ++ bZ (⟨(g.commits.length + 1), t.writes⟩ : Cm), g.tape.synced⟩ : Tp) 0 F' u)), (7, .made (fun F' u => TpV F' u (⟨g.tape.data ++ bZ (⟨(g.commits.length + 1), t.writes⟩ : Cm), g.tape.synced⟩ : Tp))), (9, .rel (NewAt q6 [Zn, (iI 0)] 108) (NewAt.stable _ _ _)), (8, .is (iI 0))] (by kernel_rfl) (by kernel_rfl) rfl rfl rfl rfl ?_
   simp only [gB, zZq, zZp, List.map_cons, List.map_nil]
   refine bV rfl rfl (pP n 0) (fun a5 a4 => aM (fR _)) ?_
   simp only [pq]
   refine bV rfl rfl (pP n 0) (fun a5 a4 => aM (mP rfl)) ?_
   simp only [pq]
   refine bV rfl rfl (pP n 1) (fun a5 a4 => aM (ef (qZ _ _))) ?_
   simp only [pq]
   refine bV rfl rfl (.agg #[(.slice ad g.tape.data.length cd), (nI g.tape.synced)]) (fun a5 a4 => aM (aD rfl (jC (cs := [(.slice ad g.tape.data.length cd), (nI g.tape.synced)]) Tryz.underlying108 rfl (cD) (St.range (St.tells a7 a4) (i := 2) rfl 1 [(.slice ad g.tape.data.length cd), (nI g.tape.synced)] (dI 1 rfl))))) ?_
   simp only [pq]
   refine bV rfl rfl (.agg #[(nI (g.commits.length + 1)), (.slice x1 t.writes.length y1)]) (fun a5 a4 => aM (aD rfl (jC (cs := [(nI (g.commits.length + 1)), (.slice x1 t.writes.length y1)]) Tryz.underlying168 rfl (fA) (St.range (St.tells a7 a4) (i := 0) rfl 0 [(nI (g.commits.length + 1)), (.slice x1 t.writes.length y1)] (dI 0 rfl))))) ?_
   simp only [pq]
   refine lE rfl rfl (fun a5 a4 hF => bQ (cB (vs := #[(.agg #[(.slice ad g.tape.data.length cd), (nI g.tape.synced)]), (.agg #[(nI (g.commits.length + 1)), (.slice x1 t.writes.length y1)])]) (gK rfl rfl) rfl (Dl _ _)) (dQ a7.sat a4 (OA _ _ _ _ (⟨g.tape.data, g.tape.synced⟩ : Tp) (⟨(g.commits.length + 1), t.writes⟩ : Cm) ((St.tells a7 a4)).sat (hT.at (St.tells a7 a4).gr.below) ⟨_, _, rfl, (hd.mono a2)⟩ ⟨_, _, rfl, (r1.mono a2)⟩ (⟨by simp only; omega, by simp only; omega⟩) hcm))) (fun r2 => ?_)
   simp only [pq]
   refine bV rfl rfl r2 (fun a5 a4 => aM (fR _)) ?_
   simp only [pq]
   refine lE rfl rfl (fun a5 a4 hF_ => ?_) (fun cg => ?_)
   obtain ⟨r3, r4, _, rfl, j6⟩ := hF_.get 5 (by kernel_rfl) rfl rfl
   exact iD (cC rfl rfl) ⟨r3, r4, j6⟩ (Below.refl _ _)
   simp only [pq]
   refine lE rfl rfl (fun a5 a4 _ => jU (cs := [Zn, (iI 0)]) (jT _) rfl a4) (fun ch => ?_)
   simp only [pq]
   refine zK (HS rfl rfl (v := (iI 0)) (fun a5 a4 hF_ => ?_) ?_)
   obtain ⟨ci, cj, _, rfl, v9⟩ := hF_.get 5 (by kernel_rfl) rfl rfl
   exact fun w1 => aM (cC rfl rfl)
   intro ck w2 c4
   obtain ⟨f2, rfl, e6, e7⟩ := c4.getR 9 rfl rfl
   have c7 : ∀ u ∈ [(.slice none 0 0), (.int .i64 0)], ∀ x, u ≠ bv x := by intro u hu x; simp only [zZk, List.not_mem_nil, or_false] at hu; rcases hu with rfl | rfl <;> (unfold bv; simp)
   obtain ⟨r5, j7, r6⟩ := c4.get 7 rfl rfl
   have j8 := j7.dropF a7.sat e6
   have r7 := TpV.dropT j7.sat e7 c7 r6
   have r8 := St.addBlk (cs := [(.slice none 0 0), (.int .i64 0)]) a7 j8 e6 (oX _ _) e7
   have a1 : Le _ _ := j8.le a7.sat
   have r9 := r7
   generalize (dropF r5 f2) = f3 at *
   obtain ⟨b9, c0, rfl, c8⟩ := r9
   have c8 : Bs _ (.slice b9 (g.tape.data ++ bZ (⟨(g.commits.length + 1), t.writes⟩ : Cm)).length c0) (g.tape.data ++ bZ (⟨(g.commits.length + 1), t.writes⟩ : Cm)) := c8
   clear c4
   refine zM (i := 0) (v := (.agg #[(.slice b9 (g.tape.data ++ bZ (⟨(g.commits.length + 1), t.writes⟩ : Cm)).length c0), (nI g.tape.synced)])) r8 rfl rfl rfl (cD) (Fs rfl rfl) (Nat.le_of_ble_eq_true rfl) (fun cl j9 => ?_)
   refine dy ?_
   simp only [pq]
   refine wlK j5 ?_
   refine aE fun cm k0 => ?_
   refine sk fun cn k1 => ?_
   refine dx ?_
   refine dr bF (cH (b := false) rfl rfl (by decide)) ?_
   refine wn k1 ?_
   refine aF ?_
   refine aH ?_
   refine k0 _ _ ?_
   refine sk fun co k2 => ?_
   iterate 2 refine dx ?_
   refine dR j9 0 Tryz.underlying108 (cD) ?_
   refine aC ?_
   refine sW 3 j9 (cD) fun s0 f4 => ?_
   simp only [pq]
   have f4 : St w0 F0 s0 f3 (⟨f2, [(.slice b9 (g.tape.data ++ bZ (⟨(g.commits.length + 1), t.writes⟩ : Cm)).length c0), (nI g.tape.synced)], 108⟩ :: ⟨f0, [(nI (g.commits.length + 1)), (.slice x1 t.writes.length y1)], 168⟩ :: ⟨n5, [(.int .i64 t.start), (.slice x0 t.reads.length y0), (.slice x1 t.writes.length y1)], 141⟩ :: ⟨n, mY g.up (.slice b9 (g.tape.data ++ bZ (⟨(g.commits.length + 1), t.writes⟩ : Cm)).length c0) g.tape.synced (.slice ac g.commits.length cc) (.slice af g.forests.length cf) g.synced (qM pv s (.pointer none)) g.waits (.slice aw g.waiting.length cw) (.slice ar g.replies.length cr), 115⟩ :: L) (pQ w0.heap.size (.slice ac g.commits.length cc) g.commits (.slice af g.forests.length cf) g.forests (.slice aw g.waiting.length cw) g.waiting (.slice ar g.replies.length cr) g.replies) := f4
   refine aC ?_
   refine fZ (i := 3) (v := bT) f4 rfl rfl rfl rfl (tP) (mL rfl) (by rw [mF]; simp only [Value.cells]; exact Nat.le_of_lt_succ (by simp only [List.size_toArray, zZg, zZj]; omega)) (fun k3 c9 => ?_)
   simp only [pq]
   have c9 : St w0 F0 k3 f3 (⟨f2, [(.slice b9 (g.tape.data ++ bZ (⟨(g.commits.length + 1), t.writes⟩ : Cm)).length c0), (nI g.tape.synced)], 108⟩ :: ⟨f0, [(nI (g.commits.length + 1)), (.slice x1 t.writes.length y1)], 168⟩ :: ⟨n5, [(.int .i64 t.start), (.slice x0 t.reads.length y0), (.slice x1 t.writes.length y1)], 141⟩ :: ⟨n, cK (mY g.up (.slice b9 (g.tape.data ++ bZ (⟨(g.commits.length + 1), t.writes⟩ : Cm)).length c0) g.tape.synced (.slice ac g.commits.length cc) (.slice af g.forests.length cf) g.synced (qM pv s (.pointer none)) g.waits (.slice aw g.waiting.length cw) (.slice ar g.replies.length cr)) (6 + s * 2 + 1) [bT], 115⟩ :: L) (pQ w0.heap.size (.slice ac g.commits.length cc) g.commits (.slice af g.forests.length cf) g.forests (.slice aw g.waiting.length cw) g.waiting (.slice ar g.replies.length cr) g.replies) := c9
   rw [FD hs8] at c9
   refine wn k2 ?_
   refine aE fun cp e8 => ?_
   obtain ⟨s1, a0, k4⟩ := St.freezeBlk c9 (i := 1) rfl
   generalize addF f3 k3 f0 = cq at *
   refine gC s1 (by kernel_rfl) (fun ct a6 => ?_)
   refine dN 0 rfl a6.sat ?_
   simp only [pq]
   refine dN 1 rfl a6.sat ?_
   simp only [pq]
   refine HT 2 rfl a6.sat ?_
   simp only [pq]
   refine bW 3 rfl _ a6.sat (fun _ _ => ef (iB _ _)) ?_
   simp only [pq]
   refine bW 5 rfl (.agg #[(nI (g.commits.length + 1)), (.slice x1 t.writes.length y1)]) a6.sat (fun _ k5 => aD rfl (jC (cs := [(nI (g.commits.length + 1)), (.slice x1 t.writes.length y1)]) Tryz.underlying168 rfl (fA) (zV (c := [(nI (g.commits.length + 1)), (.slice x1 t.writes.length y1)]) (St.start k5).sat k4))) ?_
   simp only [pq]
   refine LA 4 6 (by kernel_rfl) rfl rfl ?_ ?_
   refine dl (jD _) a6 2 ?_
   refine aG (cA a6.sat ?_)
   refine cW 6 (by kernel_rfl) rfl ?_
   refine bH a6 (v := fun n => .slice (aA n 0) 1 1) rfl (cN (ps := #[(0, (.agg #[(nI (g.commits.length + 1)), (.slice x1 t.writes.length y1)]))]) (cells := #[(nI (g.commits.length + 1)), (.slice x1 t.writes.length y1)]) (E := 168) (cZ rfl) (fun w => by kernel_rfl)) (fun cu cv f5 => ?_)
   refine aG (cA f5.sat ?_)
   refine cW 7 (by kernel_rfl) rfl ?_
   refine fH (i := 0) (r := 0) (p := (⟨g.commits.length + 1, t.writes⟩ : Cm)) (cs := [(nI (g.commits.length + 1)), (.slice x1 t.writes.length y1)]) f5 rfl g0 (.agg #[(iI 0), Zn]) 32 Tryz.underlying109 d4 d5 d6 d7 rfl (by decide) rfl rfl rfl rfl rfl (CmC.oneCell (p := (⟨g.commits.length + 1, t.writes⟩ : Cm)) ⟨_, _, rfl, rfl, (r1.mono ((a2.trans a1).trans a0))⟩) (⟨_, _, rfl, rfl, (r1.mono ((a2.trans a1).trans a0))⟩) (zZe _) f5.gr.below.size (by unfold maxLen; omega) (by omega) ?_
   intro cx cy b4 w3
   simp only [pq]
   have b4 := St.drop b4 (.cons _ (zZd _))
   obtain ⟨cz, s2, rfl, db, s3⟩ := (b4.own (i := 0) rfl).shape
   unfold maxLen at s3
   refine aG (cA b4.sat ?_)
   refine HT 8 rfl b4.sat ?_
   simp only [pq]
   refine bW 9 rfl _ b4.sat (fun _ _ => ef (iB _ _)) ?_
   simp only [pq]
   refine cW 10 (by kernel_rfl) rfl ?_
   refine sW 2 b4 (DO) fun dc k6 => ?_
   refine aG (cA k6.sat ?_)
   refine gX (by kernel_rfl) ?_
   refine e8 _ _ ?_
   refine sk fun dd k7 => ?_
   refine aC ?_
   refine bH k6 (v := fun n => .slice (aA n 0) 1 1) rfl (cN (ps := #[(0, (.slice a9 f.length b3))]) (cells := #[(.slice a9 f.length b3)]) (E := 24) (cZ rfl) (fun w => by kernel_rfl)) (fun dg dh k8 => ?_)
   refine fH (i := 0) (r := 1) (p := f) (cs := [(.slice a9 f.length b3)]) k8 rfl u0 Zn 24 Tryz.underlying106 f6 f7 f8 f9 rfl (by decide) rfl rfl rfl rfl rfl (FoC.oneCell (p := f) ⟨_, rfl, (a8.mono (a1.trans a0))⟩) (⟨_, rfl, (a8.mono (a1.trans a0))⟩) (zZe _) k8.gr.below.size (by unfold maxLen; omega) (by omega) ?_
   intro dj dk d0 w4
   simp only [pq]
   have d0 := St.drop d0 (.cons _ (zZd _))
   obtain ⟨dm, s4, rfl, dq, s5⟩ := (d0.own (i := 1) rfl).shape
   unfold maxLen at s5
   refine aC ?_
   refine sW 2 d0 (DN) fun ds s6 => ?_
   simp only [pq]
   refine wn k7 ?_
   refine aB ?_
   refine aC ?_
   refine bH s6 (v := fun n => .slice (aA n 0) 1 1) rfl (cN (ps := #[(0, (nI s))]) (cells := #[(nI s)]) (E := 3) (cZ rfl) (fun w => by kernel_rfl)) (fun du dv k9 => ?_)
   refine fH (i := 0) (r := 2) (p := s) (cs := [(nI s)]) k9 rfl i3 (iI 0) 8 Tryz.underlying60 hi3 hz3 hs3 hb3 rfl (by decide) rfl rfl rfl rfl rfl (NtC.oneCell (F := F) (p := s) rfl) (rfl) (zZe _) k9.gr.below.size (by unfold maxLen; omega) (by omega) ?_
   intro dw dz d1 w5
   simp only [pq]
   have d1 := St.drop d1 (.cons _ (zZd _))
   obtain ⟨ea, s7, rfl, eb, s8⟩ := (d1.own (i := 2) rfl).shape
   unfold maxLen at s8
   refine aC ?_
   refine sW 2 d1 (BR) fun ec s9 => ?_
   simp only [pq]
   refine aG ?_
   try simp only [xt]
   refine bE (iV rfl) ?_
   have t0 := St.perm s9 (List.perm_middle (l₁ := [_, _]))
   have l0 : EngM _ _ _ _ n (g.stand s t f) _ := ⟨_, _, _, _, _, _, _, _, _, _, _, t0, (c8.mono a0), (eG c6 ((a2.trans a1).trans a0))⟩
   rw [show g.commit s t = (g.stand s t f) from by unfold Eng.commit; rw [zZa hw, zZa hno, zZa (by rw [hcl]; decide), hap]]
   exact ⟨rfl, _, ((a2.trans a1).trans a0), (l0.drop (.cons _ (.cons _ (zZd _))))⟩
   refine bH a6 (v := fun n => .slice (aA n 0) 1 1) rfl (cN (ps := #[(0, (.agg #[(nI (g.commits.length + 1)), (.slice x1 t.writes.length y1)]))]) (cells := #[(nI (g.commits.length + 1)), (.slice x1 t.writes.length y1)]) (E := 168) (cZ rfl) (fun w => by kernel_rfl)) (fun ed ee c5 => ?_)
   refine aG (cA c5.sat ?_)
   refine cW 4 (by kernel_rfl) rfl ?_
   refine dl (jD _) c5 3 ?_
   refine aG (cA c5.sat ?_)
   refine cW 7 (by kernel_rfl) rfl ?_
   refine fH (i := 0) (r := 0) (p := (⟨g.commits.length + 1, t.writes⟩ : Cm)) (cs := [(nI (g.commits.length + 1)), (.slice x1 t.writes.length y1)]) c5 rfl g0 (.agg #[(iI 0), Zn]) 32 Tryz.underlying109 d4 d5 d6 d7 rfl (by decide) rfl rfl rfl rfl rfl (CmC.oneCell (p := (⟨g.commits.length + 1, t.writes⟩ : Cm)) ⟨_, _, rfl, rfl, (r1.mono ((a2.trans a1).trans a0))⟩) (⟨_, _, rfl, rfl, (r1.mono ((a2.trans a1).trans a0))⟩) (zZe _) c5.gr.below.size (by unfold maxLen; omega) (by omega) ?_
   intro eg eh b5 w7
   simp only [pq]
   have b5 := St.drop b5 (.cons _ (zZd _))
   obtain ⟨ei, t1, rfl, ej, t2⟩ := (b5.own (i := 0) rfl).shape
   unfold maxLen at t2
   refine aG (cA b5.sat ?_)
   refine HT 8 rfl b5.sat ?_
   simp only [pq]
   refine bW 9 rfl _ b5.sat (fun _ _ => ef (iB _ _)) ?_
   simp only [pq]
   refine cW 10 (by kernel_rfl) rfl ?_
   refine sW 2 b5 (DO) fun ek l1 => ?_
   refine aG (cA l1.sat ?_)
   refine gX (by kernel_rfl) ?_
   refine e8 _ _ ?_
   refine sk fun el l2 => ?_
   refine aC ?_
   refine bH l1 (v := fun n => .slice (aA n 0) 1 1) rfl (cN (ps := #[(0, (.slice a9 f.length b3))]) (cells := #[(.slice a9 f.length b3)]) (E := 24) (cZ rfl) (fun w => by kernel_rfl)) (fun em en l3 => ?_)
   refine fH (i := 0) (r := 1) (p := f) (cs := [(.slice a9 f.length b3)]) l3 rfl u0 Zn 24 Tryz.underlying106 f6 f7 f8 f9 rfl (by decide) rfl rfl rfl rfl rfl (FoC.oneCell (p := f) ⟨_, rfl, (a8.mono (a1.trans a0))⟩) (⟨_, rfl, (a8.mono (a1.trans a0))⟩) (zZe _) l3.gr.below.size (by unfold maxLen; omega) (by omega) ?_
   intro eo ep d2 w9
   simp only [pq]
   have d2 := St.drop d2 (.cons _ (zZd _))
   obtain ⟨eq, t3, rfl, er, t4⟩ := (d2.own (i := 1) rfl).shape
   unfold maxLen at t4
   refine aC ?_
   refine sW 2 d2 (DN) fun es t5 => ?_
   simp only [pq]
   refine wn l2 ?_
   refine aB ?_
   refine aC ?_
   refine bH t5 (v := fun n => .slice (aA n 0) 1 1) rfl (cN (ps := #[(0, (nI s))]) (cells := #[(nI s)]) (E := 3) (cZ rfl) (fun w => by kernel_rfl)) (fun et eu l4 => ?_)
   refine fH (i := 0) (r := 2) (p := s) (cs := [(nI s)]) l4 rfl i3 (iI 0) 8 Tryz.underlying60 hi3 hz3 hs3 hb3 rfl (by decide) rfl rfl rfl rfl rfl (NtC.oneCell (F := F) (p := s) rfl) (rfl) (zZe _) l4.gr.below.size (by unfold maxLen; omega) (by omega) ?_
   intro ew ex d3 x2
   simp only [pq]
   have d3 := St.drop d3 (.cons _ (zZd _))
   obtain ⟨ey, t6, rfl, ez, t7⟩ := (d3.own (i := 2) rfl).shape
   unfold maxLen at t7
   refine aC ?_
   refine sW 2 d3 (BR) fun fa t8 => ?_
   simp only [pq]
   refine aG ?_
   try simp only [xt]
   refine bE (iV rfl) ?_
   have t9 := St.perm t8 (List.perm_middle (l₁ := [_, _]))
   have l5 : EngM _ _ _ _ n (g.stand s t f) _ := ⟨_, _, _, _, _, _, _, _, _, _, _, t9, (c8.mono a0), (eG c6 ((a2.trans a1).trans a0))⟩
   rw [show g.commit s t = (g.stand s t f) from by unfold Eng.commit; rw [zZa hw, zZa hno, zZa (by rw [hcl]; decide), hap]]
   exact ⟨rfl, _, ((a2.trans a1).trans a0), (l5.drop (.cons _ (.cons _ (zZd _))))⟩
end Go.Proofs.YtilgpdpooildcaaGreatDoor
