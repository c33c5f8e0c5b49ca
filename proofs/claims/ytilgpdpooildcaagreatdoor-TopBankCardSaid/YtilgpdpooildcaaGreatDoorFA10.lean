/- Rules, plain laws and walks: WQ2 WQ3 WQ4 B3 TD P15 SV1 ME SV2 C1 -/
import Derived.Test.YtilgpdpooildcaaGreatDoorFA7
import Derived.Test.YtilgpdpooildcaaGreatDoorFA9
import Derived.Test.YtilgpdpooildcaaGreatDoorFA2
import Derived.Test.YtilgpdpooildcaaGreatDoorFA3
import Derived.Test.YtilgpdpooildcaaGreatDoorFA1
import Derived.Test.YtilgpdpooildcaaGreatDoorFA6
import Derived.Test.YtilgpdpooildcaaGreatDoorFA8
import Derived.Test.YtilgpdpooildcaaGreatDoorFA4
import Derived.Test.YtilgpdpooildcaaGreatDoorFA5
import Derived.Laws.Pointers
namespace Go.Proofs.YtilgpdpooildcaaGreatDoor
set_option maxHeartbeats 8000000
open Go.RowKit
set_option maxRecDepth 100000
set_option linter.unusedVariables false
set_option linter.unusedSimpArgs false
theorem mL (w : World) : (isAgg 150).run Tryz.prog w = .ok false w := by kernel_rfl
theorem jK (w : World) : (sizeOf 150).run Tryz.prog w = .ok 1 w := by kernel_rfl
theorem WU {b : By} {c : UInt8} (h : b[0]? = some c) (hl : ¬ 4000 < b.length) : wdE b = if c.toNat < 1 ∨ 8 < c.toNat then 5 else match nQ (bB c.toNat) (b.drop 1) with
    | none => 14
    | some p => if 0 < p.2.length then 4 else rM c.toNat p.1.name.length p.1.key.length p.1.last.length p.1.value.length := by
  cases b with
  | nil => cases h
  | cons y t =>
    simp only [List.getElem?_cons_zero, Option.some.injEq] at h
    subst h
    unfold wdE
    rw [if_neg hl]
    rfl
theorem Fi {b : By} {c : UInt8} {p : Rq × By} (h : b[0]? = some c) (he : wdE b = 0) (hd : nQ (bB c.toNat) (b.drop 1) = some p) : wdR b = (c.toNat, p.1) := by
 cases b with
 | nil => cases h
 | cons y t =>
  simp only [List.getElem?_cons_zero, Option.some.injEq] at h
  subst h
  simp only [List.drop_succ_cons, List.drop_zero] at hd
  unfold wdR
  rw [if_pos he]
  simp only [hd]
def WV (b : By) (F : Fz) (u : Value) : Prop := ∃ x, u = .tuple #[x, .int .i64 (wdE b)] ∧ CF F x ((wdR b).1 : Nat) (wdR b).2.name (wdR b).2.key (wdR b).2.last (wdR b).2.value
theorem gT {b : By} {F : Fz} {e : Int} (he : wdE b = e) (h0 : e ≠ 0) : WV b F (.tuple #[.agg #[.int .i64 0, .slice none 0 0, .slice none 0 0, .slice none 0 0, .slice none 0 0], .int .i64 e]) := by
 unfold WV
 rw [Bi (by rw [he]; exact h0), he]
 exact ⟨_, rfl, _, _, _, _, rfl, Bs.nil _, Bs.nil _, Bs.nil _, Bs.nil _⟩
theorem zE (F : Fz) (w : World) (v : Value) (b : By) (hs : Sat w F) (hh : Has w) (hb : Bs F v b) :
    Calls Tryz.prog 77 #[v] w (dO w F (WV b)) := by
 obtain ⟨x, y, rfl, hc1', hc2'⟩ := hb.shape
 unfold maxLen at hc2'
 have S := St.start hs
 go_enter Tryz.func77, Tryz.ntmps77
 refine sk fun K1 hK1 => ?_
 refine sA S (GI _) fun n2 w3 S4 => ?_
 refine dy ?_
 refine wn hK1 ?_
 refine aF fun K5 hK5 => ?_
 refine sk fun K6 hK6 => ?_
 refine aC ?_
 by_cases o8 : 4000 < b.length
 ·refine pR ?_
  refine wn hK6 ?_
  refine aK ?_
  refine aF fun K7 hK7 => ?_
  have hE : wdE b = 1 := by unfold wdE; rw [if_pos (by omega)]
  refine aB ?_
  refine dr (.agg #[(iI 0), Zn, Zn, Zn, Zn]) (aJ (gP) (by kernel_rfl)) ?_
  refine sW 0 S4 (bP) fun w8 S9 => ?_
  simp only [pq]
  refine dy ?_
  refine wlK hK7 ?_
  refine aO ?_
  try simp only [xt]
  refine bR (cZ rfl ⟨_, rfl, lR S9 0 Tryz.underlying27 (bP)⟩ (gD rfl)) ?_
  ·exact ⟨_, _, rfl, S9.gr, gT hE (by decide)⟩
 ·refine lF ?_
  refine wn hK6 ?_
  refine aG ?_
  refine aI ?_
  refine hK5 _ _ ?_
  refine aF fun v3 i6 => ?_
  refine aF fun v4 d1 => ?_
  have hl4 : ¬ 4000 < b.length := by omega
  refine aB ?_
  refine aC ?_
  by_cases o9 : b.length = 0
  ·refine iR ?_
   refine wlK d1 ?_
   refine aK ?_
   refine aF fun v5 i7 => ?_
   have hE : wdE b = 14 := by rw [List.eq_nil_of_length_eq_zero (show b.length = 0 by omega)]; rfl
   refine aB ?_
   refine dr (.agg #[(iI 0), Zn, Zn, Zn, Zn]) (aJ (gP) (by kernel_rfl)) ?_
   refine sW 0 S4 (bP) fun v6 m7 => ?_
   refine aC ?_
   refine wlK i7 ?_
   refine aO ?_
   try simp only [xt]
   refine bR (cZ rfl ⟨_, rfl, lR m7 0 Tryz.underlying27 (bP)⟩ (gD rfl)) ?_
   ·exact ⟨_, _, rfl, m7.gr, gT hE (by decide)⟩
  ·refine gL ?_
   refine wlK d1 ?_
   refine aG ?_
   refine aI ?_
   refine i6 _ _ ?_
   refine aF fun v7 i8 => ?_
   obtain ⟨c0, hc0⟩ : ∃ c, b[0]? = some c := ⟨b[0], List.getElem?_eq_getElem (by omega)⟩
   have hb8 := UInt8.toNat_lt c0
   obtain ⟨m8, m9, i9, p0⟩ := Bs.get hb hc0
   refine aB ?_
   refine dx ?_
   refine dr (pP m8 (m9 + 0 * 1)) (bK (i := 0) (sz := 1) Tryz.underlying25 (aV _) rfl i9 rfl (by omega) rfl) ?_
   refine dr _ (aE rfl (aT (fG _) (St.fz S4 p0))) ?_
   simp only [pq]
   refine dr (nI c0.toNat) (aX (v := (bv c0)) rfl (gB c0 _)) ?_
   refine dr (.agg #[(nI c0.toNat), Zn, Zn, Zn, Zn]) (aJ (cG rfl) (by kernel_rfl)) ?_
   refine sA S4 (GI _) fun a5 v8 p1 => ?_
   simp only [pq]
   refine sW 0 p1 (bP) fun v9 j0 => ?_
   refine wlK i8 ?_
   refine aF fun w0 j1 => ?_
   refine sk fun w1 c4 => ?_
   refine aC ?_
   by_cases p2 : c0.toNat < 1
   ·refine fA ?_
    refine aC ?_
    refine wn c4 ?_
    refine aK ?_
    refine aF fun w2 j2 => ?_
    have hE : wdE b = 5 := by rw [WU hc0 hl4, if_pos (by omega)]
    refine aB ?_
    refine dr (.agg #[(iI 0), Zn, Zn, Zn, Zn]) (aJ (gP) (by kernel_rfl)) ?_
    refine sW 1 j0 (bP) fun w4 n0 => ?_
    refine dy ?_
    simp only [pq]
    refine wlK j2 ?_
    refine aO ?_
    try simp only [xt]
    refine bR (cZ rfl ⟨_, rfl, lR n0 1 Tryz.underlying27 (bP)⟩ (gD rfl)) ?_
    ·exact ⟨_, _, rfl, n0.gr, gT hE (by decide)⟩
   ·refine eM ?_
    refine aC ?_
    by_cases p3 : 8 < c0.toNat
    ·refine pR ?_
     refine dp ?_
     refine wn c4 ?_
     refine aK ?_
     refine aF fun w5 j3 => ?_
     have hE : wdE b = 5 := by rw [WU hc0 hl4, if_pos (by omega)]
     refine aB ?_
     refine dr (.agg #[(iI 0), Zn, Zn, Zn, Zn]) (aJ (gP) (by kernel_rfl)) ?_
     simp only [pq]
     refine sW 1 j0 (bP) fun w6 n1 => ?_
     refine dy ?_
     refine wlK j3 ?_
     refine aO ?_
     try simp only [xt]
     refine bR (cZ rfl ⟨_, rfl, lR n1 1 Tryz.underlying27 (bP)⟩ (gD rfl)) ?_
     ·exact ⟨_, _, rfl, n1.gr, gT hE (by decide)⟩
    ·refine lF ?_
     refine aC ?_
     refine wn c4 ?_
     refine aG ?_
     refine aI ?_
     refine j1 _ _ ?_
     refine aF fun w7 j4 => ?_
     have hk : 1 ≤ c0.toNat ∧ c0.toNat ≤ 8 := by omega
     have hwd := WU hc0 hl4
     rw [if_neg (by omega)] at hwd
     refine aB ?_
     refine aC ?_
     have p4 : Bs _ (.slice (if y = 1 then x else x.map (·.add (1 * 1))) (b.length - 1) (y - 1)) (b.drop 1) := Bs.rest hb (by omega)
     refine dr (.slice (if y = 1 then x else x.map (·.add (1 * 1))) (b.length - 1) (y - 1)) (bA (l := 1) (h := b.length) (sz := 1) Tryz.underlying25 rfl (aV _) (.inr ⟨_, rfl, rfl⟩) (.inl ⟨rfl, rfl⟩) (by omega) (by omega) (rfl)) ?_
     refine dy ?_
     refine wlK j4 ?_
     refine aF fun w9 j5 => ?_
     refine sk fun x0 j6 => ?_
     refine aC ?_
     refine dr (.agg #[(pP a5 1), (pP a5 2), (pP a5 3), (pP a5 4)]) (aJ (mE rfl rfl rfl rfl) (by kernel_rfl)) ?_
     refine aC ?_
     refine wn j6 ?_
     refine aM ?_
     refine aW (fun mm aa p5 => ∃ (i : Nat) (r : Rq) (a0 : Option Addr) (e0 : Nat) (a1 : Option Addr) (e1 : Nat) (a2 : Option Addr) (e2 : Nat) (a3 : Option Addr) (e3 : Nat) (ra : Option Addr) (rn : Nat) (rc : Nat) (rest : By) (b3 : Fz) (d2 : Nat → Value), mm = 4 - i ∧ d2 = dY aa ∧ aa = ⟨([(.slice x b.length y), undef, (pP n2 0), (d2 3), (pP a5 0), (.slice ra rn rc)] ++ (usF d2 6 3 ([undef, (.slice x b.length y), (nI b.length), bF, undef, (.slice x b.length y), (nI b.length), bF, undef, (.slice x b.length y), (pP m8 (m9 + 0 * 1)), (bv c0), (nI c0.toNat), (.agg #[(nI c0.toNat), Zn, Zn, Zn, Zn]), (pP a5 0), (nI c0.toNat), bF, bF, (pP a5 0), (nI c0.toNat), bF, bF, undef, (.slice x b.length y), (.slice (if y = 1 then x else x.map (·.add (1 * 1))) (b.length - 1) (y - 1)), (pP a5 1), (pP a5 2), (pP a5 3), (pP a5 4), (.agg #[(pP a5 1), (pP a5 2), (pP a5 3), (pP a5 4)]), (nI i)] ++ (usF d2 40 40 (udF 11 []))))).toArray, []⟩ ∧ St w F p5 b3 [⟨a5, [(nI c0.toNat), (.slice a0 r.name.length e0), (.slice a1 r.key.length e1), (.slice a2 r.last.length e2), (.slice a3 r.value.length e3)], 27⟩, ⟨n2, [(iI 0), Zn, Zn, Zn, Zn], 27⟩] [] ∧ Le F b3 ∧ (i ≤ 4) ∧ (Bs b3 (.slice a0 r.name.length e0) r.name) ∧ (Bs b3 (.slice a1 r.key.length e1) r.key) ∧ (Bs b3 (.slice a2 r.last.length e2) r.last) ∧ (Bs b3 (.slice a3 r.value.length e3) r.value) ∧ (Bs b3 (.slice ra rn rc) rest) ∧ (rest.length ≤ 4000) ∧ (dX (bB c0.toNat) (4 - i) i r rest = nQ (bB c0.toNat) (b.drop 1))) _ ⟨0, ⟨[], [], [], []⟩, none, 0, none, 0, none, 0, none, 0, (if y = 1 then x else x.map (·.add (1 * 1))), (b.length - 1), (y - 1), (b.drop 1), F, _, rfl, rfl, rfl, j0, Le.refl _, (by omega), (Bs.nil _), (Bs.nil _), (Bs.nil _), (Bs.nil _), p4, (by simp only [List.length_drop]; omega), (KS _ _)⟩ ?_
     rintro x1 x2 x3 ⟨i, r, a0, e0, a1, e1, a2, e2, a3, e3, ra, rn, rc, rest, b3, d2, rfl, -, hfr, a4, a6, hi4, hf0, hf1, hf2, hf3, hrest, hrl, hinv⟩ x4 a7
     simp only [uzF, Nat.reduceAdd] at hfr; subst hfr
     refine sk fun x5 d3 => ?_
     by_cases p6 : i < 4
     ·refine fA ?_
      refine wn d3 ?_
      refine aF fun x6 j7 => ?_
      refine aK ?_
      refine aI ?_
      refine j7 _ _ ?_
      refine aF fun x7 a8 => ?_
      refine aM ?_
      refine aF fun x8 a9 => ?_
      rcases (by omega : i = 0 ∨ i = 1 ∨ i = 2 ∨ i = 3) with h4 | h4 | h4 | h4
      ·by_cases he : (bB c0.toNat).testBit i = true
       ·have hx := pB he
        have hrn := hrest.len
        have hcap : rest.length ≤ rc := by obtain ⟨_, _, e, q, _⟩ := hrest.shape; injection e with _ _ e; rw [e]; exact q
        refine aB ?_
        refine dx ?_
        refine dr (pP a5 1) (eU (i := i) Tryz.underlying151 (jK _) rfl rfl (by omega) (mL _) (by rw [h4]; rfl)) ?_
        refine aC ?_
        refine wlK a9 ?_
        refine aF fun x9 j8 => ?_
        refine sk fun y0 j9 => ?_
        refine aC ?_
        refine dr (pP 0 (c0.toNat)) (fP (i := c0.toNat) Tryz.underlying92 (eR _) rfl rfl (by omega)) ?_
        simp only [pq]
        refine dr _ (aE rfl (aT (bU _) (jT (hh.below a4.gr.below) hk))) ?_
        refine dx ?_
        refine dr (nI ((bB c0.toNat) / 2 ^ i)) (hY (m := (bB c0.toNat)) (n := i) rfl rfl (by omega)) ?_
        simp only [pq]
        refine dr (.int .i64 (((((bB c0.toNat) / 2 ^ i) % 2) : Nat) : Int)) (eV (m := ((bB c0.toNat) / 2 ^ i)) rfl rfl) ?_
        refine dr bF (cB (m := (((((bB c0.toNat) / 2 ^ i) % 2) : Nat) : Int)) (n := (0 : Int)) (b := false) rfl rfl (beq_eq_false_iff_ne.2 (by rw [hx]; decide))) ?_
        refine wn j9 ?_
        refine aG ?_
        refine aI ?_
        refine j8 _ _ ?_
        refine aF fun y1 k0 => ?_
        refine aF fun y2 c5 => ?_
        by_cases hz : rest.length = 0
        ·refine aB ?_
         refine aC ?_
         refine iR ?_
         refine aC ?_
         refine wlK c5 ?_
         refine aK ?_
         refine aF fun y3 k1 => ?_
         have hN : nQ (bB c0.toNat) (b.drop 1) = none := by rw [← hinv, show 4 - i = (3 - i) + 1 from by omega]; exact bO he (wX hz)
         have hE : wdE b = 14 := by rw [hwd, hN]
         refine aB ?_
         refine dr (.agg #[(iI 0), Zn, Zn, Zn, Zn]) (aJ (gP) (by kernel_rfl)) ?_
         refine sW 1 a4 (bP) fun y4 n3 => ?_
         refine aC ?_
         refine wlK k1 ?_
         refine aO ?_
         try simp only [xt]
         refine bR (cZ rfl ⟨_, rfl, lR n3 1 Tryz.underlying27 (bP)⟩ (gD rfl)) ?_
         ·exact ⟨_, _, rfl, n3.gr, gT hE (by decide)⟩
        ·obtain ⟨c1, hc1⟩ : ∃ c, rest[0]? = some c := ⟨rest[0], List.getElem?_eq_getElem (by omega)⟩
         have hb9 := UInt8.toNat_lt c1
         obtain ⟨n4, n5, d4, n6⟩ := Bs.get hrest hc1
         refine aB ?_
         refine aC ?_
         refine gL ?_
         refine aC ?_
         refine dr (pP n4 (n5 + 0 * 1)) (bK (i := 0) (sz := 1) Tryz.underlying25 (aV _) rfl d4 rfl (by omega) rfl) ?_
         refine dr _ (aE rfl (aT (fG _) (St.fz a4 n6))) ?_
         simp only [pq]
         refine dr (nI c1.toNat) (aX (v := (bv c1)) rfl (gB c1 _)) ?_
         refine cD (1 + c1.toNat) ?_
         simp only [pq]
         by_cases c6 : rn < (1 + c1.toNat)
         ·refine fA ?_
          refine dp ?_
          refine wlK c5 ?_
          refine aK ?_
          refine aF fun y5 k2 => ?_
          have hN : nQ (bB c0.toNat) (b.drop 1) = none := by rw [← hinv, show 4 - i = (3 - i) + 1 from by omega]; exact bO he (rI hc1 (by omega))
          have hE : wdE b = 14 := by rw [hwd, hN]
          refine aB ?_
          refine dr (.agg #[(iI 0), Zn, Zn, Zn, Zn]) (aJ (gP) (by kernel_rfl)) ?_
          simp only [pq]
          refine sW 1 a4 (bP) fun y6 n7 => ?_
          refine dy ?_
          refine wlK k2 ?_
          refine aO ?_
          try simp only [xt]
          refine bR (cZ rfl ⟨_, rfl, lR n7 1 Tryz.underlying27 (bP)⟩ (gD rfl)) ?_
          ·exact ⟨_, _, rfl, n7.gr, gT hE (by decide)⟩
         ·refine eM ?_
          refine aC ?_
          refine wlK c5 ?_
          refine aG ?_
          refine aI ?_
          refine k0 _ _ ?_
          refine sk fun y7 k3 => ?_
          refine dx ?_
          refine dr (pP n4 (n5 + 0 * 1)) (bK (i := 0) (sz := 1) Tryz.underlying25 (aV _) rfl d4 rfl (by omega) rfl) ?_
          refine dr _ (aE rfl (aT (fG _) (St.fz a4 n6))) ?_
          simp only [pq]
          refine dr (nI c1.toNat) (aX (v := (bv c1)) rfl (gB c1 _)) ?_
          refine cD (1 + c1.toNat) ?_
          refine aC ?_
          refine wn k3 ?_
          refine sk fun y8 k4 => ?_
          refine aC ?_
          have k5 : Bs _ (.slice ra (1 + c1.toNat) rc) (rest.take (1 + c1.toNat)) := eA (Sl.takeN (m := (1 + c1.toNat)) (Bs.sl hrest) (by omega))
          have k5 : Bs _ (.slice (if rc = 1 then ra else ra.map (·.add (1 * 1))) ((1 + c1.toNat) - 1) (rc - 1)) ((rest.take (1 + c1.toNat)).drop 1) := Bs.rest k5 (by omega)
          refine dr (.slice (if rc = 1 then ra else ra.map (·.add (1 * 1))) ((1 + c1.toNat) - 1) (rc - 1)) (bA (l := 1) (h := (1 + c1.toNat)) (sz := 1) Tryz.underlying25 rfl (aV _) (.inr ⟨_, rfl, rfl⟩) (.inr ⟨_, rfl, rfl⟩) (by omega) (by omega) (rfl)) ?_
          refine aY a4 rfl (fn1 (gV _ _)) (dC _ _ _ ((rest.take (1 + c1.toNat)).drop 1) (a4).sat k5 (by simp only [List.length_drop, List.length_take]; omega)) ?_
          intro y9 z0 p7 p8 b4 n8
          obtain ⟨k6, k7, rfl, _⟩ := n8.shape
          refine di ?_
          refine sW 0 p8 (oR) fun z1 p9 => ?_
          simp only [pq]
          refine wn k4 ?_
          refine aB ?_
          refine aC ?_
          have q0 : Bs _ (.slice (if rc = (1 + c1.toNat) then ra else ra.map (·.add ((1 + c1.toNat) * 1))) (rn - (1 + c1.toNat)) (rc - (1 + c1.toNat))) (rest.drop (1 + c1.toNat)) := Bs.rest (hrest.mono b4) (by omega)
          refine dr (.slice (if rc = (1 + c1.toNat) then ra else ra.map (·.add ((1 + c1.toNat) * 1))) (rn - (1 + c1.toNat)) (rc - (1 + c1.toNat))) (bA (l := (1 + c1.toNat)) (h := rn) (sz := 1) Tryz.underlying25 rfl (aV _) (.inr ⟨_, rfl, rfl⟩) (.inl ⟨rfl, rfl⟩) (by omega) (by omega) (rfl)) ?_
          refine dy ?_
          refine wlK a8 ?_
          refine aB ?_
          refine cD (i + 1) ?_
          refine aC ?_
          refine aH ?_
          exact a7 _ _ _ (by omega) ⟨(i + 1), (⟨((rest.take (1 + c1.toNat)).drop 1), r.key, r.last, r.value⟩ : Rq), k6, k7, a1, e1, a2, e2, a3, e3, (if rc = (1 + c1.toNat) then ra else ra.map (·.add ((1 + c1.toNat) * 1))), (rn - (1 + c1.toNat)), (rc - (1 + c1.toNat)), (rest.drop (1 + c1.toNat)), p7, _, rfl, rfl, rfl, p9, (a6.trans b4), (by omega), n8, (hf1.mono b4), (hf2.mono b4), (hf3.mono b4), q0, (by simp only [List.length_drop]; omega), (by subst h4; rw [← hinv]; exact (cN (n := 3) he (tY hc1 (by omega))).symm)⟩
       ·have he : (bB c0.toNat).testBit i = false := by simpa using he
        have hx := tB he
        have hrn := hrest.len
        have hcap : rest.length ≤ rc := by obtain ⟨_, _, e, q, _⟩ := hrest.shape; injection e with _ _ e; rw [e]; exact q
        refine aB ?_
        refine dx ?_
        refine dr (pP a5 1) (eU (i := i) Tryz.underlying151 (jK _) rfl rfl (by omega) (mL _) (by rw [h4]; rfl)) ?_
        refine aC ?_
        refine wlK a9 ?_
        refine aF fun z2 q1 => ?_
        refine sk fun z3 k8 => ?_
        refine aC ?_
        refine dr (pP 0 (c0.toNat)) (fP (i := c0.toNat) Tryz.underlying92 (eR _) rfl rfl (by omega)) ?_
        simp only [pq]
        refine dr _ (aE rfl (aT (bU _) (jT (hh.below a4.gr.below) hk))) ?_
        refine dx ?_
        refine dr (nI ((bB c0.toNat) / 2 ^ i)) (hY (m := (bB c0.toNat)) (n := i) rfl rfl (by omega)) ?_
        simp only [pq]
        refine dr (.int .i64 (((((bB c0.toNat) / 2 ^ i) % 2) : Nat) : Int)) (eV (m := ((bB c0.toNat) / 2 ^ i)) rfl rfl) ?_
        refine dr bT (cB (m := (((((bB c0.toNat) / 2 ^ i) % 2) : Nat) : Int)) (n := (0 : Int)) (b := true) rfl rfl (beq_iff_eq.2 (by rw [hx]; rfl))) ?_
        refine wn k8 ?_
        refine aK ?_
        refine cS ?_
        refine a8 _ _ ?_
        refine aB ?_
        refine cD (i + 1) ?_
        refine aC ?_
        refine aH ?_
        exact a7 _ _ _ (by omega) ⟨(i + 1), r, a0, e0, a1, e1, a2, e2, a3, e3, ra, rn, rc, rest, b3, _, rfl, rfl, rfl, a4, a6, (by omega), hf0, hf1, hf2, hf3, hrest, (by omega), (by subst h4; rw [← hinv]; exact (dK (n := 3) he).symm)⟩
      ·by_cases he : (bB c0.toNat).testBit i = true
       ·have hx := pB he
        have hrn := hrest.len
        have hcap : rest.length ≤ rc := by obtain ⟨_, _, e, q, _⟩ := hrest.shape; injection e with _ _ e; rw [e]; exact q
        refine aB ?_
        refine dx ?_
        refine dr (pP a5 2) (eU (i := i) Tryz.underlying151 (jK _) rfl rfl (by omega) (mL _) (by rw [h4]; rfl)) ?_
        refine aC ?_
        refine wlK a9 ?_
        refine aF fun z4 k9 => ?_
        refine sk fun z5 l0 => ?_
        refine aC ?_
        refine dr (pP 0 (c0.toNat)) (fP (i := c0.toNat) Tryz.underlying92 (eR _) rfl rfl (by omega)) ?_
        simp only [pq]
        refine dr _ (aE rfl (aT (bU _) (jT (hh.below a4.gr.below) hk))) ?_
        refine dx ?_
        refine dr (nI ((bB c0.toNat) / 2 ^ i)) (hY (m := (bB c0.toNat)) (n := i) rfl rfl (by omega)) ?_
        simp only [pq]
        refine dr (.int .i64 (((((bB c0.toNat) / 2 ^ i) % 2) : Nat) : Int)) (eV (m := ((bB c0.toNat) / 2 ^ i)) rfl rfl) ?_
        refine dr bF (cB (m := (((((bB c0.toNat) / 2 ^ i) % 2) : Nat) : Int)) (n := (0 : Int)) (b := false) rfl rfl (beq_eq_false_iff_ne.2 (by rw [hx]; decide))) ?_
        refine wn l0 ?_
        refine aG ?_
        refine aI ?_
        refine k9 _ _ ?_
        refine aF fun z6 l1 => ?_
        refine aF fun z7 c7 => ?_
        by_cases hz : rest.length = 0
        ·refine aB ?_
         refine aC ?_
         refine iR ?_
         refine aC ?_
         refine wlK c7 ?_
         refine aK ?_
         refine aF fun z8 l2 => ?_
         have hN : nQ (bB c0.toNat) (b.drop 1) = none := by rw [← hinv, show 4 - i = (3 - i) + 1 from by omega]; exact bO he (wX hz)
         have hE : wdE b = 14 := by rw [hwd, hN]
         refine aB ?_
         refine dr (.agg #[(iI 0), Zn, Zn, Zn, Zn]) (aJ (gP) (by kernel_rfl)) ?_
         refine sW 1 a4 (bP) fun z9 n9 => ?_
         refine aC ?_
         refine wlK l2 ?_
         refine aO ?_
         try simp only [xt]
         refine bR (cZ rfl ⟨_, rfl, lR n9 1 Tryz.underlying27 (bP)⟩ (gD rfl)) ?_
         ·exact ⟨_, _, rfl, n9.gr, gT hE (by decide)⟩
        ·obtain ⟨c1, hc1⟩ : ∃ c, rest[0]? = some c := ⟨rest[0], List.getElem?_eq_getElem (by omega)⟩
         have hb9 := UInt8.toNat_lt c1
         obtain ⟨o0, o1, d5, o2⟩ := Bs.get hrest hc1
         refine aB ?_
         refine aC ?_
         refine gL ?_
         refine aC ?_
         refine dr (pP o0 (o1 + 0 * 1)) (bK (i := 0) (sz := 1) Tryz.underlying25 (aV _) rfl d5 rfl (by omega) rfl) ?_
         refine dr _ (aE rfl (aT (fG _) (St.fz a4 o2))) ?_
         simp only [pq]
         refine dr (nI c1.toNat) (aX (v := (bv c1)) rfl (gB c1 _)) ?_
         refine cD (1 + c1.toNat) ?_
         simp only [pq]
         by_cases c6 : rn < (1 + c1.toNat)
         ·refine fA ?_
          refine dp ?_
          refine wlK c7 ?_
          refine aK ?_
          refine aF fun ab l3 => ?_
          have hN : nQ (bB c0.toNat) (b.drop 1) = none := by rw [← hinv, show 4 - i = (3 - i) + 1 from by omega]; exact bO he (rI hc1 (by omega))
          have hE : wdE b = 14 := by rw [hwd, hN]
          refine aB ?_
          refine dr (.agg #[(iI 0), Zn, Zn, Zn, Zn]) (aJ (gP) (by kernel_rfl)) ?_
          simp only [pq]
          refine sW 1 a4 (bP) fun ac o3 => ?_
          refine dy ?_
          refine wlK l3 ?_
          refine aO ?_
          try simp only [xt]
          refine bR (cZ rfl ⟨_, rfl, lR o3 1 Tryz.underlying27 (bP)⟩ (gD rfl)) ?_
          ·exact ⟨_, _, rfl, o3.gr, gT hE (by decide)⟩
         ·refine eM ?_
          refine aC ?_
          refine wlK c7 ?_
          refine aG ?_
          refine aI ?_
          refine l1 _ _ ?_
          refine sk fun ad l4 => ?_
          refine dx ?_
          refine dr (pP o0 (o1 + 0 * 1)) (bK (i := 0) (sz := 1) Tryz.underlying25 (aV _) rfl d5 rfl (by omega) rfl) ?_
          refine dr _ (aE rfl (aT (fG _) (St.fz a4 o2))) ?_
          simp only [pq]
          refine dr (nI c1.toNat) (aX (v := (bv c1)) rfl (gB c1 _)) ?_
          refine cD (1 + c1.toNat) ?_
          refine aC ?_
          refine wn l4 ?_
          refine sk fun ae l5 => ?_
          refine aC ?_
          have l6 : Bs _ (.slice ra (1 + c1.toNat) rc) (rest.take (1 + c1.toNat)) := eA (Sl.takeN (m := (1 + c1.toNat)) (Bs.sl hrest) (by omega))
          have l6 : Bs _ (.slice (if rc = 1 then ra else ra.map (·.add (1 * 1))) ((1 + c1.toNat) - 1) (rc - 1)) ((rest.take (1 + c1.toNat)).drop 1) := Bs.rest l6 (by omega)
          refine dr (.slice (if rc = 1 then ra else ra.map (·.add (1 * 1))) ((1 + c1.toNat) - 1) (rc - 1)) (bA (l := 1) (h := (1 + c1.toNat)) (sz := 1) Tryz.underlying25 rfl (aV _) (.inr ⟨_, rfl, rfl⟩) (.inr ⟨_, rfl, rfl⟩) (by omega) (by omega) (rfl)) ?_
          refine aY a4 rfl (fn1 (gV _ _)) (dC _ _ _ ((rest.take (1 + c1.toNat)).drop 1) (a4).sat l6 (by simp only [List.length_drop, List.length_take]; omega)) ?_
          intro q2 af q3 q4 b0 d6
          obtain ⟨d7, d8, rfl, _⟩ := d6.shape
          refine di ?_
          refine sW 0 q4 (oR) fun q5 l7 => ?_
          simp only [pq]
          refine wn l5 ?_
          refine aB ?_
          refine aC ?_
          have l8 : Bs _ (.slice (if rc = (1 + c1.toNat) then ra else ra.map (·.add ((1 + c1.toNat) * 1))) (rn - (1 + c1.toNat)) (rc - (1 + c1.toNat))) (rest.drop (1 + c1.toNat)) := Bs.rest (hrest.mono b0) (by omega)
          refine dr (.slice (if rc = (1 + c1.toNat) then ra else ra.map (·.add ((1 + c1.toNat) * 1))) (rn - (1 + c1.toNat)) (rc - (1 + c1.toNat))) (bA (l := (1 + c1.toNat)) (h := rn) (sz := 1) Tryz.underlying25 rfl (aV _) (.inr ⟨_, rfl, rfl⟩) (.inl ⟨rfl, rfl⟩) (by omega) (by omega) (rfl)) ?_
          refine dy ?_
          refine wlK a8 ?_
          refine aB ?_
          refine cD (i + 1) ?_
          refine aC ?_
          refine aH ?_
          exact a7 _ _ _ (by omega) ⟨(i + 1), (⟨r.name, ((rest.take (1 + c1.toNat)).drop 1), r.last, r.value⟩ : Rq), a0, e0, d7, d8, a2, e2, a3, e3, (if rc = (1 + c1.toNat) then ra else ra.map (·.add ((1 + c1.toNat) * 1))), (rn - (1 + c1.toNat)), (rc - (1 + c1.toNat)), (rest.drop (1 + c1.toNat)), q3, _, rfl, rfl, rfl, l7, (a6.trans b0), (by omega), (hf0.mono b0), d6, (hf2.mono b0), (hf3.mono b0), l8, (by simp only [List.length_drop]; omega), (by subst h4; rw [← hinv]; exact (cN (n := 2) he (tY hc1 (by omega))).symm)⟩
       ·have he : (bB c0.toNat).testBit i = false := by simpa using he
        have hx := tB he
        have hrn := hrest.len
        have hcap : rest.length ≤ rc := by obtain ⟨_, _, e, q, _⟩ := hrest.shape; injection e with _ _ e; rw [e]; exact q
        refine aB ?_
        refine dx ?_
        refine dr (pP a5 2) (eU (i := i) Tryz.underlying151 (jK _) rfl rfl (by omega) (mL _) (by rw [h4]; rfl)) ?_
        refine aC ?_
        refine wlK a9 ?_
        refine aF fun q6 o4 => ?_
        refine sk fun q7 d9 => ?_
        refine aC ?_
        refine dr (pP 0 (c0.toNat)) (fP (i := c0.toNat) Tryz.underlying92 (eR _) rfl rfl (by omega)) ?_
        simp only [pq]
        refine dr _ (aE rfl (aT (bU _) (jT (hh.below a4.gr.below) hk))) ?_
        refine dx ?_
        refine dr (nI ((bB c0.toNat) / 2 ^ i)) (hY (m := (bB c0.toNat)) (n := i) rfl rfl (by omega)) ?_
        simp only [pq]
        refine dr (.int .i64 (((((bB c0.toNat) / 2 ^ i) % 2) : Nat) : Int)) (eV (m := ((bB c0.toNat) / 2 ^ i)) rfl rfl) ?_
        refine dr bT (cB (m := (((((bB c0.toNat) / 2 ^ i) % 2) : Nat) : Int)) (n := (0 : Int)) (b := true) rfl rfl (beq_iff_eq.2 (by rw [hx]; rfl))) ?_
        refine wn d9 ?_
        refine aK ?_
        refine cS ?_
        refine a8 _ _ ?_
        refine aB ?_
        refine cD (i + 1) ?_
        refine aC ?_
        refine aH ?_
        exact a7 _ _ _ (by omega) ⟨(i + 1), r, a0, e0, a1, e1, a2, e2, a3, e3, ra, rn, rc, rest, b3, _, rfl, rfl, rfl, a4, a6, (by omega), hf0, hf1, hf2, hf3, hrest, (by omega), (by subst h4; rw [← hinv]; exact (dK (n := 2) he).symm)⟩
      ·by_cases he : (bB c0.toNat).testBit i = true
       ·have hx := pB he
        have hrn := hrest.len
        have hcap : rest.length ≤ rc := by obtain ⟨_, _, e, q, _⟩ := hrest.shape; injection e with _ _ e; rw [e]; exact q
        refine aB ?_
        refine dx ?_
        refine dr (pP a5 3) (eU (i := i) Tryz.underlying151 (jK _) rfl rfl (by omega) (mL _) (by rw [h4]; rfl)) ?_
        refine aC ?_
        refine wlK a9 ?_
        refine aF fun q8 e4 => ?_
        refine sk fun q9 e5 => ?_
        refine aC ?_
        refine dr (pP 0 (c0.toNat)) (fP (i := c0.toNat) Tryz.underlying92 (eR _) rfl rfl (by omega)) ?_
        simp only [pq]
        refine dr _ (aE rfl (aT (bU _) (jT (hh.below a4.gr.below) hk))) ?_
        refine dx ?_
        refine dr (nI ((bB c0.toNat) / 2 ^ i)) (hY (m := (bB c0.toNat)) (n := i) rfl rfl (by omega)) ?_
        simp only [pq]
        refine dr (.int .i64 (((((bB c0.toNat) / 2 ^ i) % 2) : Nat) : Int)) (eV (m := ((bB c0.toNat) / 2 ^ i)) rfl rfl) ?_
        refine dr bF (cB (m := (((((bB c0.toNat) / 2 ^ i) % 2) : Nat) : Int)) (n := (0 : Int)) (b := false) rfl rfl (beq_eq_false_iff_ne.2 (by rw [hx]; decide))) ?_
        refine wn e5 ?_
        refine aG ?_
        refine aI ?_
        refine e4 _ _ ?_
        refine aF fun r0 e6 => ?_
        refine aF fun r1 b5 => ?_
        by_cases hz : rest.length = 0
        ·refine aB ?_
         refine aC ?_
         refine iR ?_
         refine aC ?_
         refine wlK b5 ?_
         refine aK ?_
         refine aF fun r2 e7 => ?_
         have hN : nQ (bB c0.toNat) (b.drop 1) = none := by rw [← hinv, show 4 - i = (3 - i) + 1 from by omega]; exact bO he (wX hz)
         have hE : wdE b = 14 := by rw [hwd, hN]
         refine aB ?_
         refine dr (.agg #[(iI 0), Zn, Zn, Zn, Zn]) (aJ (gP) (by kernel_rfl)) ?_
         refine sW 1 a4 (bP) fun r3 e8 => ?_
         refine aC ?_
         refine wlK e7 ?_
         refine aO ?_
         try simp only [xt]
         refine bR (cZ rfl ⟨_, rfl, lR e8 1 Tryz.underlying27 (bP)⟩ (gD rfl)) ?_
         ·exact ⟨_, _, rfl, e8.gr, gT hE (by decide)⟩
        ·obtain ⟨c1, hc1⟩ : ∃ c, rest[0]? = some c := ⟨rest[0], List.getElem?_eq_getElem (by omega)⟩
         have hb9 := UInt8.toNat_lt c1
         obtain ⟨e9, f0, b7, f1⟩ := Bs.get hrest hc1
         refine aB ?_
         refine aC ?_
         refine gL ?_
         refine aC ?_
         refine dr (pP e9 (f0 + 0 * 1)) (bK (i := 0) (sz := 1) Tryz.underlying25 (aV _) rfl b7 rfl (by omega) rfl) ?_
         refine dr _ (aE rfl (aT (fG _) (St.fz a4 f1))) ?_
         simp only [pq]
         refine dr (nI c1.toNat) (aX (v := (bv c1)) rfl (gB c1 _)) ?_
         refine cD (1 + c1.toNat) ?_
         simp only [pq]
         by_cases c6 : rn < (1 + c1.toNat)
         ·refine fA ?_
          refine dp ?_
          refine wlK b5 ?_
          refine aK ?_
          refine aF fun r4 f2 => ?_
          have hN : nQ (bB c0.toNat) (b.drop 1) = none := by rw [← hinv, show 4 - i = (3 - i) + 1 from by omega]; exact bO he (rI hc1 (by omega))
          have hE : wdE b = 14 := by rw [hwd, hN]
          refine aB ?_
          refine dr (.agg #[(iI 0), Zn, Zn, Zn, Zn]) (aJ (gP) (by kernel_rfl)) ?_
          simp only [pq]
          refine sW 1 a4 (bP) fun r5 f3 => ?_
          refine dy ?_
          refine wlK f2 ?_
          refine aO ?_
          try simp only [xt]
          refine bR (cZ rfl ⟨_, rfl, lR f3 1 Tryz.underlying27 (bP)⟩ (gD rfl)) ?_
          ·exact ⟨_, _, rfl, f3.gr, gT hE (by decide)⟩
         ·refine eM ?_
          refine aC ?_
          refine wlK b5 ?_
          refine aG ?_
          refine aI ?_
          refine e6 _ _ ?_
          refine sk fun r6 f4 => ?_
          refine dx ?_
          refine dr (pP e9 (f0 + 0 * 1)) (bK (i := 0) (sz := 1) Tryz.underlying25 (aV _) rfl b7 rfl (by omega) rfl) ?_
          refine dr _ (aE rfl (aT (fG _) (St.fz a4 f1))) ?_
          simp only [pq]
          refine dr (nI c1.toNat) (aX (v := (bv c1)) rfl (gB c1 _)) ?_
          refine cD (1 + c1.toNat) ?_
          refine aC ?_
          refine wn f4 ?_
          refine sk fun r7 f5 => ?_
          refine aC ?_
          have c8 : Bs _ (.slice ra (1 + c1.toNat) rc) (rest.take (1 + c1.toNat)) := eA (Sl.takeN (m := (1 + c1.toNat)) (Bs.sl hrest) (by omega))
          have c8 : Bs _ (.slice (if rc = 1 then ra else ra.map (·.add (1 * 1))) ((1 + c1.toNat) - 1) (rc - 1)) ((rest.take (1 + c1.toNat)).drop 1) := Bs.rest c8 (by omega)
          refine dr (.slice (if rc = 1 then ra else ra.map (·.add (1 * 1))) ((1 + c1.toNat) - 1) (rc - 1)) (bA (l := 1) (h := (1 + c1.toNat)) (sz := 1) Tryz.underlying25 rfl (aV _) (.inr ⟨_, rfl, rfl⟩) (.inr ⟨_, rfl, rfl⟩) (by omega) (by omega) (rfl)) ?_
          refine aY a4 rfl (fn1 (gV _ _)) (dC _ _ _ ((rest.take (1 + c1.toNat)).drop 1) (a4).sat c8 (by simp only [List.length_drop, List.length_take]; omega)) ?_
          intro r8 r9 l9 m0 b1 f6
          obtain ⟨f7, f8, rfl, _⟩ := f6.shape
          refine di ?_
          refine sW 0 m0 (oR) fun s0 m1 => ?_
          simp only [pq]
          refine wn f5 ?_
          refine aB ?_
          refine aC ?_
          have m2 : Bs _ (.slice (if rc = (1 + c1.toNat) then ra else ra.map (·.add ((1 + c1.toNat) * 1))) (rn - (1 + c1.toNat)) (rc - (1 + c1.toNat))) (rest.drop (1 + c1.toNat)) := Bs.rest (hrest.mono b1) (by omega)
          refine dr (.slice (if rc = (1 + c1.toNat) then ra else ra.map (·.add ((1 + c1.toNat) * 1))) (rn - (1 + c1.toNat)) (rc - (1 + c1.toNat))) (bA (l := (1 + c1.toNat)) (h := rn) (sz := 1) Tryz.underlying25 rfl (aV _) (.inr ⟨_, rfl, rfl⟩) (.inl ⟨rfl, rfl⟩) (by omega) (by omega) (rfl)) ?_
          refine dy ?_
          refine wlK a8 ?_
          refine aB ?_
          refine cD (i + 1) ?_
          refine aC ?_
          refine aH ?_
          exact a7 _ _ _ (by omega) ⟨(i + 1), (⟨r.name, r.key, ((rest.take (1 + c1.toNat)).drop 1), r.value⟩ : Rq), a0, e0, a1, e1, f7, f8, a3, e3, (if rc = (1 + c1.toNat) then ra else ra.map (·.add ((1 + c1.toNat) * 1))), (rn - (1 + c1.toNat)), (rc - (1 + c1.toNat)), (rest.drop (1 + c1.toNat)), l9, _, rfl, rfl, rfl, m1, (a6.trans b1), (by omega), (hf0.mono b1), (hf1.mono b1), f6, (hf3.mono b1), m2, (by simp only [List.length_drop]; omega), (by subst h4; rw [← hinv]; exact (cN (n := 1) he (tY hc1 (by omega))).symm)⟩
       ·have he : (bB c0.toNat).testBit i = false := by simpa using he
        have hx := tB he
        have hrn := hrest.len
        have hcap : rest.length ≤ rc := by obtain ⟨_, _, e, q, _⟩ := hrest.shape; injection e with _ _ e; rw [e]; exact q
        refine aB ?_
        refine dx ?_
        refine dr (pP a5 3) (eU (i := i) Tryz.underlying151 (jK _) rfl rfl (by omega) (mL _) (by rw [h4]; rfl)) ?_
        refine aC ?_
        refine wlK a9 ?_
        refine aF fun s1 o5 => ?_
        refine sk fun s2 f9 => ?_
        refine aC ?_
        refine dr (pP 0 (c0.toNat)) (fP (i := c0.toNat) Tryz.underlying92 (eR _) rfl rfl (by omega)) ?_
        simp only [pq]
        refine dr _ (aE rfl (aT (bU _) (jT (hh.below a4.gr.below) hk))) ?_
        refine dx ?_
        refine dr (nI ((bB c0.toNat) / 2 ^ i)) (hY (m := (bB c0.toNat)) (n := i) rfl rfl (by omega)) ?_
        simp only [pq]
        refine dr (.int .i64 (((((bB c0.toNat) / 2 ^ i) % 2) : Nat) : Int)) (eV (m := ((bB c0.toNat) / 2 ^ i)) rfl rfl) ?_
        refine dr bT (cB (m := (((((bB c0.toNat) / 2 ^ i) % 2) : Nat) : Int)) (n := (0 : Int)) (b := true) rfl rfl (beq_iff_eq.2 (by rw [hx]; rfl))) ?_
        refine wn f9 ?_
        refine aK ?_
        refine cS ?_
        refine a8 _ _ ?_
        refine aB ?_
        refine cD (i + 1) ?_
        refine aC ?_
        refine aH ?_
        exact a7 _ _ _ (by omega) ⟨(i + 1), r, a0, e0, a1, e1, a2, e2, a3, e3, ra, rn, rc, rest, b3, _, rfl, rfl, rfl, a4, a6, (by omega), hf0, hf1, hf2, hf3, hrest, (by omega), (by subst h4; rw [← hinv]; exact (dK (n := 1) he).symm)⟩
      ·by_cases he : (bB c0.toNat).testBit i = true
       ·have hx := pB he
        have hrn := hrest.len
        have hcap : rest.length ≤ rc := by obtain ⟨_, _, e, q, _⟩ := hrest.shape; injection e with _ _ e; rw [e]; exact q
        refine aB ?_
        refine dx ?_
        refine dr (pP a5 4) (eU (i := i) Tryz.underlying151 (jK _) rfl rfl (by omega) (mL _) (by rw [h4]; rfl)) ?_
        refine aC ?_
        refine wlK a9 ?_
        refine aF fun s3 g0 => ?_
        refine sk fun s4 g1 => ?_
        refine aC ?_
        refine dr (pP 0 (c0.toNat)) (fP (i := c0.toNat) Tryz.underlying92 (eR _) rfl rfl (by omega)) ?_
        simp only [pq]
        refine dr _ (aE rfl (aT (bU _) (jT (hh.below a4.gr.below) hk))) ?_
        refine dx ?_
        refine dr (nI ((bB c0.toNat) / 2 ^ i)) (hY (m := (bB c0.toNat)) (n := i) rfl rfl (by omega)) ?_
        simp only [pq]
        refine dr (.int .i64 (((((bB c0.toNat) / 2 ^ i) % 2) : Nat) : Int)) (eV (m := ((bB c0.toNat) / 2 ^ i)) rfl rfl) ?_
        refine dr bF (cB (m := (((((bB c0.toNat) / 2 ^ i) % 2) : Nat) : Int)) (n := (0 : Int)) (b := false) rfl rfl (beq_eq_false_iff_ne.2 (by rw [hx]; decide))) ?_
        refine wn g1 ?_
        refine aG ?_
        refine aI ?_
        refine g0 _ _ ?_
        refine aF fun s5 g2 => ?_
        refine aF fun s6 b6 => ?_
        by_cases hz : rest.length = 0
        ·refine aB ?_
         refine aC ?_
         refine iR ?_
         refine aC ?_
         refine wlK b6 ?_
         refine aK ?_
         refine aF fun s7 g3 => ?_
         have hN : nQ (bB c0.toNat) (b.drop 1) = none := by rw [← hinv, show 4 - i = (3 - i) + 1 from by omega]; exact bO he (wX hz)
         have hE : wdE b = 14 := by rw [hwd, hN]
         refine aB ?_
         refine dr (.agg #[(iI 0), Zn, Zn, Zn, Zn]) (aJ (gP) (by kernel_rfl)) ?_
         refine sW 1 a4 (bP) fun s8 g4 => ?_
         refine aC ?_
         refine wlK g3 ?_
         refine aO ?_
         try simp only [xt]
         refine bR (cZ rfl ⟨_, rfl, lR g4 1 Tryz.underlying27 (bP)⟩ (gD rfl)) ?_
         ·exact ⟨_, _, rfl, g4.gr, gT hE (by decide)⟩
        ·obtain ⟨c1, hc1⟩ : ∃ c, rest[0]? = some c := ⟨rest[0], List.getElem?_eq_getElem (by omega)⟩
         have hb9 := UInt8.toNat_lt c1
         obtain ⟨g5, g6, b9, g7⟩ := Bs.get hrest hc1
         refine aB ?_
         refine aC ?_
         refine gL ?_
         refine aC ?_
         refine dr (pP g5 (g6 + 0 * 1)) (bK (i := 0) (sz := 1) Tryz.underlying25 (aV _) rfl b9 rfl (by omega) rfl) ?_
         refine dr _ (aE rfl (aT (fG _) (St.fz a4 g7))) ?_
         simp only [pq]
         refine dr (nI c1.toNat) (aX (v := (bv c1)) rfl (gB c1 _)) ?_
         refine cD (1 + c1.toNat) ?_
         simp only [pq]
         by_cases c6 : rn < (1 + c1.toNat)
         ·refine fA ?_
          refine dp ?_
          refine wlK b6 ?_
          refine aK ?_
          refine aF fun s9 g8 => ?_
          have hN : nQ (bB c0.toNat) (b.drop 1) = none := by rw [← hinv, show 4 - i = (3 - i) + 1 from by omega]; exact bO he (rI hc1 (by omega))
          have hE : wdE b = 14 := by rw [hwd, hN]
          refine aB ?_
          refine dr (.agg #[(iI 0), Zn, Zn, Zn, Zn]) (aJ (gP) (by kernel_rfl)) ?_
          simp only [pq]
          refine sW 1 a4 (bP) fun t0 g9 => ?_
          refine dy ?_
          refine wlK g8 ?_
          refine aO ?_
          try simp only [xt]
          refine bR (cZ rfl ⟨_, rfl, lR g9 1 Tryz.underlying27 (bP)⟩ (gD rfl)) ?_
          ·exact ⟨_, _, rfl, g9.gr, gT hE (by decide)⟩
         ·refine eM ?_
          refine aC ?_
          refine wlK b6 ?_
          refine aG ?_
          refine aI ?_
          refine g2 _ _ ?_
          refine sk fun t1 h0 => ?_
          refine dx ?_
          refine dr (pP g5 (g6 + 0 * 1)) (bK (i := 0) (sz := 1) Tryz.underlying25 (aV _) rfl b9 rfl (by omega) rfl) ?_
          refine dr _ (aE rfl (aT (fG _) (St.fz a4 g7))) ?_
          simp only [pq]
          refine dr (nI c1.toNat) (aX (v := (bv c1)) rfl (gB c1 _)) ?_
          refine cD (1 + c1.toNat) ?_
          refine aC ?_
          refine wn h0 ?_
          refine sk fun t2 h1 => ?_
          refine aC ?_
          have c9 : Bs _ (.slice ra (1 + c1.toNat) rc) (rest.take (1 + c1.toNat)) := eA (Sl.takeN (m := (1 + c1.toNat)) (Bs.sl hrest) (by omega))
          have c9 : Bs _ (.slice (if rc = 1 then ra else ra.map (·.add (1 * 1))) ((1 + c1.toNat) - 1) (rc - 1)) ((rest.take (1 + c1.toNat)).drop 1) := Bs.rest c9 (by omega)
          refine dr (.slice (if rc = 1 then ra else ra.map (·.add (1 * 1))) ((1 + c1.toNat) - 1) (rc - 1)) (bA (l := 1) (h := (1 + c1.toNat)) (sz := 1) Tryz.underlying25 rfl (aV _) (.inr ⟨_, rfl, rfl⟩) (.inr ⟨_, rfl, rfl⟩) (by omega) (by omega) (rfl)) ?_
          refine aY a4 rfl (fn1 (gV _ _)) (dC _ _ _ ((rest.take (1 + c1.toNat)).drop 1) (a4).sat c9 (by simp only [List.length_drop, List.length_take]; omega)) ?_
          intro t3 t4 m3 m4 b2 h2
          obtain ⟨h3, h5, rfl, _⟩ := h2.shape
          refine di ?_
          refine sW 0 m4 (oR) fun t5 m5 => ?_
          simp only [pq]
          refine wn h1 ?_
          refine aB ?_
          refine aC ?_
          have m6 : Bs _ (.slice (if rc = (1 + c1.toNat) then ra else ra.map (·.add ((1 + c1.toNat) * 1))) (rn - (1 + c1.toNat)) (rc - (1 + c1.toNat))) (rest.drop (1 + c1.toNat)) := Bs.rest (hrest.mono b2) (by omega)
          refine dr (.slice (if rc = (1 + c1.toNat) then ra else ra.map (·.add ((1 + c1.toNat) * 1))) (rn - (1 + c1.toNat)) (rc - (1 + c1.toNat))) (bA (l := (1 + c1.toNat)) (h := rn) (sz := 1) Tryz.underlying25 rfl (aV _) (.inr ⟨_, rfl, rfl⟩) (.inl ⟨rfl, rfl⟩) (by omega) (by omega) (rfl)) ?_
          refine dy ?_
          refine wlK a8 ?_
          refine aB ?_
          refine cD (i + 1) ?_
          refine aC ?_
          refine aH ?_
          exact a7 _ _ _ (by omega) ⟨(i + 1), (⟨r.name, r.key, r.last, ((rest.take (1 + c1.toNat)).drop 1)⟩ : Rq), a0, e0, a1, e1, a2, e2, h3, h5, (if rc = (1 + c1.toNat) then ra else ra.map (·.add ((1 + c1.toNat) * 1))), (rn - (1 + c1.toNat)), (rc - (1 + c1.toNat)), (rest.drop (1 + c1.toNat)), m3, _, rfl, rfl, rfl, m5, (a6.trans b2), (by omega), (hf0.mono b2), (hf1.mono b2), (hf2.mono b2), h2, m6, (by simp only [List.length_drop]; omega), (by subst h4; rw [← hinv]; exact (cN (n := 0) he (tY hc1 (by omega))).symm)⟩
       ·have he : (bB c0.toNat).testBit i = false := by simpa using he
        have hx := tB he
        have hrn := hrest.len
        have hcap : rest.length ≤ rc := by obtain ⟨_, _, e, q, _⟩ := hrest.shape; injection e with _ _ e; rw [e]; exact q
        refine aB ?_
        refine dx ?_
        refine dr (pP a5 4) (eU (i := i) Tryz.underlying151 (jK _) rfl rfl (by omega) (mL _) (by rw [h4]; rfl)) ?_
        refine aC ?_
        refine wlK a9 ?_
        refine aF fun t6 o6 => ?_
        refine sk fun t7 h6 => ?_
        refine aC ?_
        refine dr (pP 0 (c0.toNat)) (fP (i := c0.toNat) Tryz.underlying92 (eR _) rfl rfl (by omega)) ?_
        simp only [pq]
        refine dr _ (aE rfl (aT (bU _) (jT (hh.below a4.gr.below) hk))) ?_
        refine dx ?_
        refine dr (nI ((bB c0.toNat) / 2 ^ i)) (hY (m := (bB c0.toNat)) (n := i) rfl rfl (by omega)) ?_
        simp only [pq]
        refine dr (.int .i64 (((((bB c0.toNat) / 2 ^ i) % 2) : Nat) : Int)) (eV (m := ((bB c0.toNat) / 2 ^ i)) rfl rfl) ?_
        refine dr bT (cB (m := (((((bB c0.toNat) / 2 ^ i) % 2) : Nat) : Int)) (n := (0 : Int)) (b := true) rfl rfl (beq_iff_eq.2 (by rw [hx]; rfl))) ?_
        refine wn h6 ?_
        refine aK ?_
        refine cS ?_
        refine a8 _ _ ?_
        refine aB ?_
        refine cD (i + 1) ?_
        refine aC ?_
        refine aH ?_
        exact a7 _ _ _ (by omega) ⟨(i + 1), r, a0, e0, a1, e1, a2, e2, a3, e3, ra, rn, rc, rest, b3, _, rfl, rfl, rfl, a4, a6, (by omega), hf0, hf1, hf2, hf3, hrest, (by omega), (by subst h4; rw [← hinv]; exact (dK (n := 0) he).symm)⟩
     ·refine eM ?_
      refine wn d3 ?_
      refine aF fun t8 o7 => ?_
      refine aG ?_
      refine cS ?_
      refine j5 _ _ ?_
      refine aF fun t9 h7 => ?_
      refine aF fun u0 c2 => ?_
      have hrn := hrest.len
      have hi5 : i = 4 := by omega
      have hD : nQ (bB c0.toNat) (b.drop 1) = some (r, rest) := by rw [← hinv, hi5]; rfl
      rw [hD] at hwd
      have hwd : wdE b = if 0 < rest.length then 4 else rM c0.toNat r.name.length r.key.length r.last.length r.value.length := hwd
      refine aB ?_
      refine aC ?_
      by_cases u1 : 0 < rn
      ·refine pR ?_
       refine wlK c2 ?_
       refine aK ?_
       refine aF fun u2 h8 => ?_
       have hE : wdE b = 4 := by rw [hwd, if_pos (by omega)]
       refine aB ?_
       refine dr (.agg #[(iI 0), Zn, Zn, Zn, Zn]) (aJ (gP) (by kernel_rfl)) ?_
       refine sW 1 a4 (bP) fun u3 h9 => ?_
       refine aC ?_
       refine wlK h8 ?_
       refine aO ?_
       try simp only [xt]
       refine bR (cZ rfl ⟨_, rfl, lR h9 1 Tryz.underlying27 (bP)⟩ (gD rfl)) ?_
       ·exact ⟨_, _, rfl, h9.gr, gT hE (by decide)⟩
      ·refine lF ?_
       refine wlK c2 ?_
       refine aG ?_
       refine aI ?_
       refine h7 _ _ ?_
       refine aF fun u4 i0 => ?_
       refine aF fun u5 i1 => ?_
       rw [if_neg (by omega)] at hwd
       refine aB ?_
       refine dR a4 0 Tryz.underlying27 (bP) ?_
       simp only [pq]
       refine aL (v := (.int .i64 (rM c0.toNat r.name.length r.key.length r.last.length r.value.length))) a4 rfl (fn1 (GQ _ _)) (sY _ _ _ c0.toNat r.name r.key r.last r.value (by omega) (by omega) (hh.below a4.gr.below) ⟨_, _, _, _, rfl, hf0, hf1, hf2, hf3⟩) (fun u6 d0 => ?_)
       refine dy ?_
       refine wlK i1 ?_
       refine sk fun u7 c3 => ?_
       refine aC ?_
       by_cases u8 : (rM c0.toNat r.name.length r.key.length r.last.length r.value.length) = (0 : Int)
       ·refine lQ ?_
        refine wn c3 ?_
        refine aG ?_
        refine aI ?_
        refine i0 _ _ ?_
        refine sk fun u9 i2 => ?_
        refine dR d0 0 Tryz.underlying27 (bP) ?_
        refine sW 1 d0 (bP) fun v0 i3 => ?_
        refine aC ?_
        refine wn i2 ?_
        refine aO ?_
        try simp only [xt]
        refine bR (cZ rfl ⟨_, rfl, lR i3 1 Tryz.underlying27 (bP)⟩ (gD rfl)) ?_
        ·exact ⟨_, _, rfl, i3.gr, by unfold WV; rw [Fi hc0 (hwd.trans (by omega)) hD, hwd.trans (show _ = (0 : Int) by omega)]; exact ⟨_, rfl, _, _, _, _, rfl, hf0, hf1, hf2, hf3⟩⟩
       ·refine mS ?_
        refine wn c3 ?_
        refine aK ?_
        refine sk fun v1 i4 => ?_
        refine dr (.agg #[(iI 0), Zn, Zn, Zn, Zn]) (aJ (gP) (by kernel_rfl)) ?_
        refine aC ?_
        refine sW 1 d0 (bP) fun v2 i5 => ?_
        refine dy ?_
        refine wn i4 ?_
        refine aO ?_
        try simp only [xt]
        refine bR (cZ rfl ⟨_, rfl, lR i5 1 Tryz.underlying27 (bP)⟩ (gD rfl)) ?_
        ·exact ⟨_, _, rfl, i5.gr, gT hwd (by omega)⟩
theorem CG (F : Fz) (w : World) (v : Value) (b : By) {e : Int} {k : Nat} {r : Rq} (hs : Sat w F) (hh : Has w) (hb : Bs F v b) (he : wdE b = e) (hr : wdR b = (k, r)) :
    Calls Tryz.prog 77 #[v] w (dO w F fun F' u => ∃ x, u = .tuple #[x, .int .i64 e] ∧ CF F' x ((k : Nat) : Int) r.name r.key r.last r.value) := by
 have := zE F w v b hs hh hb
 unfold WV at this
 rw [he, hr] at this
 exact this
theorem WW {k : Nat} {r : Rq} (ok : RqOk k r) (hk : k = 2 ∨ k = 3 ∨ k = 4 ∨ k = 5) : (1 ≤ r.name.length ∧ r.name.length ≤ 8) ∧ (1 ≤ r.key.length ∧ r.key.length ≤ 16) ∧ r.value.length ≤ 32 ∧ (k ≠ 3 → r.last = []) ∧ (k = 3 → 1 ≤ r.last.length ∧ r.last.length ≤ 16) ∧ (k ≠ 4 → r.value = []) := by
 obtain ⟨a1, a2, a3, a4, a5, a6, a7, a8⟩ := sZ (h := bB k) ok.fits
 have e0 : ∀ {l : By}, l.length = 0 → l = [] := fun h => List.eq_nil_of_length_eq_zero h
 rcases hk with rfl | rfl | rfl | rfl
 ·exact ⟨a1 rfl, a2 rfl, a4, fun _ => e0 (a7 rfl), fun h => by omega, fun _ => e0 (a8 rfl)⟩
 ·exact ⟨a1 rfl, a2 rfl, a4, fun h => absurd rfl h, fun _ => a3 rfl, fun _ => e0 (a8 rfl)⟩
 ·exact ⟨a1 rfl, a2 rfl, a4, fun _ => e0 (a7 rfl), fun h => by omega, fun h => absurd rfl h⟩
 ·exact ⟨a1 rfl, a2 rfl, a4, fun _ => e0 (a7 rfl), fun h => by omega, fun _ => e0 (a8 rfl)⟩
theorem QK {k : Nat} {r : Rq} {b : Bool} (ok : RqOk k r) (hk : (k = 2 ∧ b = false) ∨ (k = 3 ∧ b = true)) : RdOk ⟨r.name, r.key, b, r.last⟩ := by
 obtain ⟨h1, h2, h3, h4, h5, h6⟩ := WW ok (by omega)
 rcases hk with ⟨hk, rfl⟩ | ⟨hk, rfl⟩
 ·exact ⟨h1, h2, h4 (by omega)⟩
 ·exact ⟨h1, h2, h5 hk⟩
theorem WX {k : Nat} {r : Rq} {b : Bool} (ok : RqOk k r) (hk : (k = 4 ∧ b = false) ∨ (k = 5 ∧ b = true)) : WrOk ⟨r.name, r.key, b, r.value⟩ := by
 obtain ⟨h1, h2, h3, h4, h5, h6⟩ := WW ok (by omega)
 rcases hk with ⟨hk, rfl⟩ | ⟨hk, rfl⟩
 ·exact ⟨h1, h2.1, h2.2, h3, fun h => by cases h⟩
 ·exact ⟨h1, h2.1, h2.2, h3, fun _ => h6 (by omega)⟩
theorem KV (r : Rd) : gH jI r = some ⟨0, [r], []⟩ := by simp [gH, jI]
theorem FE (w : Wr) : fD jI w = some ⟨0, [], [w]⟩ := by simp [fD, jI, yW]
def RdR (p : Rd) (e : Int) (F : Fz) (u : Value) : Prop := ∃ x, u = .tuple #[x, .int .i64 e] ∧ RdV F x p
def WrR (p : Wr) (e : Int) (F : Fz) (u : Value) : Prop := ∃ x, u = .tuple #[x, .int .i64 e] ∧ WrV F x p
theorem HW (F : Fz) (w : World) (v : Value) (k : Nat) (r : Rq) {b : Bool} (hs : Sat w F) (hh : Has w) (hv : CF F v k r.name r.key r.last r.value) (ok : RqOk k r) (hb : (k = 2 ∧ b = false) ∨ (k = 3 ∧ b = true)) :
    Calls Tryz.prog 105 #[v] w (dO w F (RdR ⟨r.name, r.key, b, r.last⟩ 0)) := by
 have hk := ok.kind
 obtain ⟨_, _, _, _, rfl, h0, h1, h2, h3⟩ := hv
 obtain ⟨x0, y0, rfl, _⟩ := h0.shape
 obtain ⟨x1, y1, rfl, _⟩ := h1.shape
 obtain ⟨x2, y2, rfl, _⟩ := h2.shape
 obtain ⟨x3, y3, rfl, _⟩ := h3.shape
 have S := St.start hs
 go_enter Tryz.func105, Tryz.ntmps105
 refine sk fun K1 hK1 => ?_
 refine aZ S (v := fun n => .pointer (aA n 0)) rfl (bW (v := (.agg #[(nI k), (.slice x0 r.name.length y0), (.slice x1 r.key.length y1), (.slice x2 r.last.length y2), (.slice x3 r.value.length y3)])) rfl) (fun n2 w3 S4 => ?_)
 refine sA S4 (rZ _) fun n5 w6 S7 => ?_
 refine dy ?_
 refine wn hK1 ?_
 refine aF fun K8 hK8 => ?_
 refine sk fun K9 hK9 => ?_
 refine dR S7 1 Tryz.underlying27 (bP) ?_
 simp only [pq]
 refine aL (v := (iI 0)) S7 rfl (fn1 (GQ _ _)) (lY _ _ _ k r (hh.below S7.gr.below) ⟨_, _, _, _, rfl, h0, h1, h2, h3⟩ ok) (fun h5 a4 => ?_)
 refine dy ?_
 refine wn hK9 ?_
 refine sk fun h6 a5 => ?_
 refine dx ?_
 refine dr bF (cC (m := (0 : Int)) (n := (0 : Int)) (b := false) rfl rfl (bne_eq_false_iff_eq.2 (rfl))) ?_
 simp only [pq]
 refine wn a5 ?_
 refine aG ?_
 refine aI ?_
 refine hK8 _ _ ?_
 refine aF fun h7 c0 => ?_
 refine sk fun h8 a6 => ?_
 refine aC ?_
 refine wn a6 ?_
 refine aM ?_
 refine aF fun h9 a0 => ?_
 refine aF fun i0 a1 => ?_
 rcases hb with ⟨hk, rfl⟩ | ⟨hk, rfl⟩
 refine aB ?_
 refine iR ?_
 refine dy ?_
 simp only [pq]
 refine wlK a1 ?_
 refine aK ?_
 refine aI ?_
 refine a0 _ _ ?_
 refine aK ?_
 refine sk fun i1 a7 => ?_
 refine dr (.agg #[(iI 0), Zn, Zn]) (aJ (gP) (by kernel_rfl)) ?_
 refine aC ?_
 refine gL ?_
 refine aC ?_
 refine dr (.agg #[(.slice x0 r.name.length y0), (.slice x1 r.key.length y1), bF, (.slice x2 r.last.length y2)]) (aJ (mE rfl rfl rfl rfl) (by kernel_rfl)) ?_
 refine aY a4 rfl (fn2 (zO _ _)) (oB _ _ _ _ jI (⟨r.name, r.key, false, r.last⟩ : Rd) (⟨0, [(⟨r.name, r.key, false, r.last⟩ : Rd)], []⟩ : Tx) (a4).sat (TxV.nil _) ⟨_, _, _, _, _, _, rfl, h0, h1, h2⟩ zU (QK ok (Or.inl ⟨hk, rfl⟩)) (KV _)) ?_
 intro i2 i3 i4 c1 c2 c3
 obtain ⟨_, rfl, c4⟩ := c3
 obtain ⟨c5, c6, c7, c8, rfl, c9, i5⟩ := c4
 refine aC ?_
 refine sA c1 (fX _) fun i6 i7 d0 => ?_
 refine sW 0 d0 (aU) fun i8 a2 => ?_
 refine dy ?_
 simp only [pq]
 refine wn a7 ?_
 refine aF fun i9 a8 => ?_
 refine sk fun j0 a9 => ?_
 refine dx ?_
 refine dr bF (cC (m := (0 : Int)) (n := (0 : Int)) (b := false) rfl rfl (bne_eq_false_iff_eq.2 (rfl))) ?_
 refine wn a9 ?_
 refine aG ?_
 refine aI ?_
 refine a8 _ _ ?_
 refine aF fun j1 b0 => ?_
 have hp : ((⟨0, [(⟨r.name, r.key, false, r.last⟩ : Rd)], []⟩ : Tx).reads)[0]? = some (⟨r.name, r.key, false, r.last⟩ : Rd) := rfl
 obtain ⟨d1, d2, b1, d3, d4, d5, d6, d7, d8, d9, e0, e1, e2, e3, e4, e5⟩ := Rds.get c9 hp
 refine aB ?_
 refine aC ?_
 refine dr (pP d1 (d2 + 0 * 4)) (bK (i := 0) (sz := 4) Tryz.underlying139 (jE _) rfl b1 rfl (by show 0 < 1; omega) rfl) ?_
 simp only [pq]
 refine dr _ (aE rfl (cU Tryz.underlying179 rfl (dE) (eL (St.fz a2 d9) (St.fz a2 e0) (St.fz a2 e1) (St.fz a2 e2)))) ?_
 refine sW 1 a2 (dE) fun j2 b7 => ?_
 refine dy ?_
 simp only [pq]
 refine wlK b0 ?_
 refine aO ?_
 try simp only [xt]
 refine bR (cZ rfl ⟨_, rfl, lR b7 1 Tryz.underlying179 (dE)⟩ (gD rfl)) ?_
 exact ⟨_, _, rfl, b7.gr, _, rfl, _, _, _, _, _, _, rfl, e3, e4, e5⟩
 refine aB ?_
 refine gL ?_
 refine dy ?_
 refine wlK a1 ?_
 refine aG ?_
 refine aB ?_
 refine iR ?_
 refine dy ?_
 simp only [pq]
 refine wlK a0 ?_
 refine aK ?_
 refine sk fun j3 b2 => ?_
 refine dr (.agg #[(iI 0), Zn, Zn]) (aJ (gP) (by kernel_rfl)) ?_
 refine aC ?_
 refine iR ?_
 refine aC ?_
 refine dr (.agg #[(.slice x0 r.name.length y0), (.slice x1 r.key.length y1), bT, (.slice x2 r.last.length y2)]) (aJ (mE rfl rfl rfl rfl) (by kernel_rfl)) ?_
 refine aY a4 rfl (fn2 (zO _ _)) (oB _ _ _ _ jI (⟨r.name, r.key, true, r.last⟩ : Rd) (⟨0, [(⟨r.name, r.key, true, r.last⟩ : Rd)], []⟩ : Tx) (a4).sat (TxV.nil _) ⟨_, _, _, _, _, _, rfl, h0, h1, h2⟩ zU (QK ok (Or.inr ⟨hk, rfl⟩)) (KV _)) ?_
 intro j4 j5 j6 e6 e7 e8
 obtain ⟨_, rfl, e9⟩ := e8
 obtain ⟨f0, f1, f2, f3, rfl, f4, j7⟩ := e9
 refine aC ?_
 refine sA e6 (fX _) fun j8 j9 f5 => ?_
 refine sW 0 f5 (aU) fun k0 a3 => ?_
 refine dy ?_
 simp only [pq]
 refine wn b2 ?_
 refine aF fun k1 b3 => ?_
 refine sk fun k2 b4 => ?_
 refine dx ?_
 refine dr bF (cC (m := (0 : Int)) (n := (0 : Int)) (b := false) rfl rfl (bne_eq_false_iff_eq.2 (rfl))) ?_
 refine wn b4 ?_
 refine aG ?_
 refine aI ?_
 refine b3 _ _ ?_
 refine aF fun k3 b5 => ?_
 have hp : ((⟨0, [(⟨r.name, r.key, true, r.last⟩ : Rd)], []⟩ : Tx).reads)[0]? = some (⟨r.name, r.key, true, r.last⟩ : Rd) := rfl
 obtain ⟨f6, f7, b6, f8, f9, g0, g1, g2, g3, g4, g5, g6, g7, g8, g9, h4⟩ := Rds.get f4 hp
 refine aB ?_
 refine aC ?_
 refine dr (pP f6 (f7 + 0 * 4)) (bK (i := 0) (sz := 4) Tryz.underlying139 (jE _) rfl b6 rfl (by show 0 < 1; omega) rfl) ?_
 simp only [pq]
 refine dr _ (aE rfl (cU Tryz.underlying179 rfl (dE) (eL (St.fz a3 g4) (St.fz a3 g5) (St.fz a3 g6) (St.fz a3 g7)))) ?_
 refine sW 1 a3 (dE) fun k4 b9 => ?_
 refine dy ?_
 simp only [pq]
 refine wlK b5 ?_
 refine aO ?_
 try simp only [xt]
 refine bR (cZ rfl ⟨_, rfl, lR b9 1 Tryz.underlying179 (dE)⟩ (gD rfl)) ?_
 exact ⟨_, _, rfl, b9.gr, _, rfl, _, _, _, _, _, _, rfl, g8, g9, h4⟩
theorem DG (F : Fz) (w : World) (v : Value) (k : Nat) (r : Rq) {b : Bool} (hs : Sat w F) (hh : Has w) (hv : CF F v k r.name r.key r.last r.value) (ok : RqOk k r) (hb : (k = 4 ∧ b = false) ∨ (k = 5 ∧ b = true)) :
    Calls Tryz.prog 93 #[v] w (dO w F (WrR ⟨r.name, r.key, b, r.value⟩ 0)) := by
 have hk := ok.kind
 obtain ⟨_, _, _, _, rfl, h0, h1, h2, h3⟩ := hv
 obtain ⟨x0, y0, rfl, _⟩ := h0.shape
 obtain ⟨x1, y1, rfl, _⟩ := h1.shape
 obtain ⟨x2, y2, rfl, _⟩ := h2.shape
 obtain ⟨x3, y3, rfl, _⟩ := h3.shape
 have S := St.start hs
 go_enter Tryz.func93, Tryz.ntmps93
 refine sk fun K1 hK1 => ?_
 refine aZ S (v := fun n => .pointer (aA n 0)) rfl (bW (v := (.agg #[(nI k), (.slice x0 r.name.length y0), (.slice x1 r.key.length y1), (.slice x2 r.last.length y2), (.slice x3 r.value.length y3)])) rfl) (fun n2 w3 S4 => ?_)
 refine sA S4 (kC _) fun n5 w6 S7 => ?_
 refine dy ?_
 refine wn hK1 ?_
 refine aF fun K8 hK8 => ?_
 refine sk fun K9 hK9 => ?_
 refine dR S7 1 Tryz.underlying27 (bP) ?_
 simp only [pq]
 refine aL (v := (iI 0)) S7 rfl (fn1 (GQ _ _)) (lY _ _ _ k r (hh.below S7.gr.below) ⟨_, _, _, _, rfl, h0, h1, h2, h3⟩ ok) (fun h5 a4 => ?_)
 refine dy ?_
 refine wn hK9 ?_
 refine sk fun h6 a5 => ?_
 refine dx ?_
 refine dr bF (cC (m := (0 : Int)) (n := (0 : Int)) (b := false) rfl rfl (bne_eq_false_iff_eq.2 (rfl))) ?_
 simp only [pq]
 refine wn a5 ?_
 refine aG ?_
 refine aI ?_
 refine hK8 _ _ ?_
 refine aF fun h7 c0 => ?_
 refine sk fun h8 a6 => ?_
 refine aC ?_
 refine wn a6 ?_
 refine aM ?_
 refine aF fun h9 a0 => ?_
 refine aF fun i0 a1 => ?_
 rcases hb with ⟨hk, rfl⟩ | ⟨hk, rfl⟩
 refine aB ?_
 refine iR ?_
 refine dy ?_
 simp only [pq]
 refine wlK a1 ?_
 refine aK ?_
 refine aI ?_
 refine a0 _ _ ?_
 refine aK ?_
 refine sk fun i1 a7 => ?_
 refine dr (.agg #[(iI 0), Zn, Zn]) (aJ (gP) (by kernel_rfl)) ?_
 refine aC ?_
 refine gL ?_
 refine aC ?_
 refine dr (.agg #[(.slice x0 r.name.length y0), (.slice x1 r.key.length y1), bF, (.slice x3 r.value.length y3)]) (aJ (mE rfl rfl rfl rfl) (by kernel_rfl)) ?_
 refine aY a4 rfl (fn2 (GV _ _)) (mW _ _ _ _ jI (⟨r.name, r.key, false, r.value⟩ : Wr) (⟨0, [], [(⟨r.name, r.key, false, r.value⟩ : Wr)]⟩ : Tx) (a4).sat (TxV.nil _) ⟨_, _, _, _, _, _, rfl, h0, h1, h3⟩ zU (WX ok (Or.inl ⟨hk, rfl⟩)) (FE _)) ?_
 intro i2 i3 i4 c1 c2 c3
 obtain ⟨_, rfl, c4⟩ := c3
 obtain ⟨c5, c6, c7, c8, rfl, i5, c9⟩ := c4
 refine aC ?_
 refine sA c1 (fX _) fun i6 i7 d0 => ?_
 refine sW 0 d0 (aU) fun i8 a2 => ?_
 refine dy ?_
 simp only [pq]
 refine wn a7 ?_
 refine aF fun i9 a8 => ?_
 refine sk fun j0 a9 => ?_
 refine dx ?_
 refine dr bF (cC (m := (0 : Int)) (n := (0 : Int)) (b := false) rfl rfl (bne_eq_false_iff_eq.2 (rfl))) ?_
 refine wn a9 ?_
 refine aG ?_
 refine aI ?_
 refine a8 _ _ ?_
 refine aF fun j1 b0 => ?_
 have hp : ((⟨0, [], [(⟨r.name, r.key, false, r.value⟩ : Wr)]⟩ : Tx).writes)[0]? = some (⟨r.name, r.key, false, r.value⟩ : Wr) := rfl
 obtain ⟨d1, d2, b1, d3, d4, d5, d6, d7, d8, d9, e0, e1, e2, e3, e4, e5⟩ := Wrs.get c9 hp
 refine aB ?_
 refine aC ?_
 refine dr (pP d1 (d2 + 0 * 4)) (bK (i := 0) (sz := 4) Tryz.underlying40 (eT _) rfl b1 rfl (by show 0 < 1; omega) rfl) ?_
 simp only [pq]
 refine dr _ (aE rfl (cU Tryz.underlying39 rfl (bI) (eL (St.fz a2 d9) (St.fz a2 e0) (St.fz a2 e1) (St.fz a2 e2)))) ?_
 refine sW 1 a2 (bI) fun j2 b7 => ?_
 refine dy ?_
 simp only [pq]
 refine wlK b0 ?_
 refine aO ?_
 try simp only [xt]
 refine bR (cZ rfl ⟨_, rfl, lR b7 1 Tryz.underlying39 (bI)⟩ (gD rfl)) ?_
 exact ⟨_, _, rfl, b7.gr, _, rfl, _, _, _, _, _, _, rfl, e3, e4, e5⟩
 refine aB ?_
 refine gL ?_
 refine dy ?_
 refine wlK a1 ?_
 refine aG ?_
 refine aB ?_
 refine iR ?_
 refine dy ?_
 simp only [pq]
 refine wlK a0 ?_
 refine aK ?_
 refine sk fun j3 b2 => ?_
 refine dr (.agg #[(iI 0), Zn, Zn]) (aJ (gP) (by kernel_rfl)) ?_
 refine aC ?_
 refine iR ?_
 refine aC ?_
 refine dr (.agg #[(.slice x0 r.name.length y0), (.slice x1 r.key.length y1), bT, (.slice x3 r.value.length y3)]) (aJ (mE rfl rfl rfl rfl) (by kernel_rfl)) ?_
 refine aY a4 rfl (fn2 (GV _ _)) (mW _ _ _ _ jI (⟨r.name, r.key, true, r.value⟩ : Wr) (⟨0, [], [(⟨r.name, r.key, true, r.value⟩ : Wr)]⟩ : Tx) (a4).sat (TxV.nil _) ⟨_, _, _, _, _, _, rfl, h0, h1, h3⟩ zU (WX ok (Or.inr ⟨hk, rfl⟩)) (FE _)) ?_
 intro j4 j5 j6 e6 e7 e8
 obtain ⟨_, rfl, e9⟩ := e8
 obtain ⟨f0, f1, f2, f3, rfl, j7, f4⟩ := e9
 refine aC ?_
 refine sA e6 (fX _) fun j8 j9 f5 => ?_
 refine sW 0 f5 (aU) fun k0 a3 => ?_
 refine dy ?_
 simp only [pq]
 refine wn b2 ?_
 refine aF fun k1 b3 => ?_
 refine sk fun k2 b4 => ?_
 refine dx ?_
 refine dr bF (cC (m := (0 : Int)) (n := (0 : Int)) (b := false) rfl rfl (bne_eq_false_iff_eq.2 (rfl))) ?_
 refine wn b4 ?_
 refine aG ?_
 refine aI ?_
 refine b3 _ _ ?_
 refine aF fun k3 b5 => ?_
 have hp : ((⟨0, [], [(⟨r.name, r.key, true, r.value⟩ : Wr)]⟩ : Tx).writes)[0]? = some (⟨r.name, r.key, true, r.value⟩ : Wr) := rfl
 obtain ⟨f6, f7, b6, f8, f9, g0, g1, g2, g3, g4, g5, g6, g7, g8, g9, h4⟩ := Wrs.get f4 hp
 refine aB ?_
 refine aC ?_
 refine dr (pP f6 (f7 + 0 * 4)) (bK (i := 0) (sz := 4) Tryz.underlying40 (eT _) rfl b6 rfl (by show 0 < 1; omega) rfl) ?_
 simp only [pq]
 refine dr _ (aE rfl (cU Tryz.underlying39 rfl (bI) (eL (St.fz a3 g4) (St.fz a3 g5) (St.fz a3 g6) (St.fz a3 g7)))) ?_
 refine sW 1 a3 (bI) fun k4 b9 => ?_
 refine dy ?_
 simp only [pq]
 refine wlK b5 ?_
 refine aO ?_
 try simp only [xt]
 refine bR (cZ rfl ⟨_, rfl, lR b9 1 Tryz.underlying39 (bI)⟩ (gD rfl)) ?_
 exact ⟨_, _, rfl, b9.gr, _, rfl, _, _, _, _, _, _, rfl, g8, g9, h4⟩
theorem Bj {k : IntKind} {a b : Int} (h : a = b) : Ending.returned (.int k a) = .returned (.int k b) := by rw [h]
def SP (kind sess keep : Int) (n : Nat) : Int :=
  if kind < 1 ∨ 4 < kind then 5 else if (kind = 1 ∧ (sess < 0 ∨ 8 ≤ sess)) ∨ (kind = 3 ∧ (keep < 0 ∨ 200000 < keep)) then 2
  else if 4000 < n then 1 else if (kind ≠ 1 ∧ (sess ≠ 0 ∨ 0 < n)) ∨ (kind ≠ 3 ∧ keep ≠ 0) then 4 else 0
theorem DH (w : World) (kind sess keep : Int) (a : Option Addr) (n c : Nat) (hn : n ≤ 9223372036854775807) :
    Calls Tryz.prog 51 #[.agg #[.int .i64 kind, .int .i64 sess, .int .i64 keep, .slice a n c]] w (cY w (.int .i64 (SP kind sess keep n))) := by
 have HA : Hid (SP kind sess keep n = if kind < 1 ∨ 4 < kind then 5 else if (kind = 1 ∧ (sess < 0 ∨ 8 ≤ sess)) ∨ (kind = 3 ∧ (keep < 0 ∨ 200000 < keep)) then 2
  else if 4000 < n then 1 else if (kind ≠ 1 ∧ (sess ≠ 0 ∨ 0 < n)) ∨ (kind ≠ 3 ∧ keep ≠ 0) then 4 else 0) := rfl
 generalize SP kind sess keep n = r at *
 go_enter Tryz.func51, Tryz.ntmps51
 go_wp2_with fail
 all_goals
  go_ret
  refine ⟨?_, (Below.refl _ _).alloc (Nat.le_refl _) _⟩
  have h := HA.out
  clear HA
  try simp only [bne_iff_ne, ne_eq, bne_eq_false_iff_eq] at *
  refine Bj (Eq.symm (h.trans ?_))
  first | rw [if_pos (by omega)] | rw [if_neg (by omega), if_pos (by omega)] | rw [if_neg (by omega), if_neg (by omega), if_pos (by omega)] | rw [if_neg (by omega), if_neg (by omega), if_neg (by omega), if_pos (by omega)] | rw [if_neg (by omega), if_neg (by omega), if_neg (by omega), if_neg (by omega)]
open Go.ChangeShapes Go.WideShapes Go.ChangeAt Go.RowKit
def QL : List Int := [1, 32898, 9223372036854808714, 9223372039002292224, 32907, 2147483649, 9223372039002292353, 9223372036854808585, 138, 136, 2147516425, 2147483658, 2147516555, 9223372036854775947, 9223372036854808713, 9223372036854808579, 9223372036854808578, 9223372036854775936, 32778, 9223372039002259466, 9223372039002292353, 9223372036854808704, 2147483649, 9223372039002292232]
theorem QM : Tryz.prog.globalNamed "canopy/digest.rounds" = some 4 := by kernel_rfl
theorem KW : (Tryz.prog.globals[(4 : Nat)]?).map (·.type) = some 218 := by kernel_rfl
theorem HX : Tryz.prog.cellsOf 218 = 24 := by kernel_rfl
theorem OD : Tryz.prog.cellsOf 215 = 1 := by kernel_rfl
def Co : List Int := [10, 7, 11, 17, 18, 3, 5, 16, 8, 21, 24, 4, 15, 23, 19, 13, 12, 2, 20, 14, 22, 9, 6, 1]
theorem Cp : Tryz.prog.globalNamed "canopy/digest.goes" = some 2 := by kernel_rfl
theorem SQ : (Tryz.prog.globals[(2 : Nat)]?).map (·.type) = some 235 := by kernel_rfl
theorem OE : Tryz.prog.cellsOf 235 = 24 := by kernel_rfl
theorem WY : Tryz.prog.cellsOf 3 = 1 := by kernel_rfl
def WZ : List Int := [1, 3, 6, 10, 15, 21, 28, 36, 45, 55, 2, 14, 27, 41, 56, 8, 25, 43, 62, 18, 39, 61, 20, 44]
theorem XA : Tryz.prog.globalNamed "canopy/digest.turns" = some 3 := by kernel_rfl
theorem OF : (Tryz.prog.globals[(3 : Nat)]?).map (·.type) = some 235 := by kernel_rfl
theorem KX : Tryz.prog.cellsOf 235 = 24 := by kernel_rfl
theorem SR : Tryz.prog.cellsOf 3 = 1 := by kernel_rfl
theorem XB : ∀ i, i < 24 → Co.getD i 0 = (lI i : Int) := by decide +kernel
theorem SS : ∀ i, i < 24 → WZ.getD i 0 = (mO i : Int) := by decide +kernel
theorem OG : ∀ i, i < 24 → QL.getD i 0 = gC (xJ i) := by unfold gC; decide +kernel
theorem OH {W : World} {name : String} {k : IntKind} {zs : List Int} {g : Nat} (h : Lib.TabIs Tryz.prog W name k zs) (hg : Tryz.prog.globalNamed name = some g) {n : Nat} (hn : zs.length = n) {i : Nat} (hi : i < n) : W.cell? ⟨g, i, none⟩ = some (.int k (zs.getD i 0)) := by
 have hi' : i < zs.length := by omega
 have := h.cell hg i hi'
 exact this.trans (by simp [List.getD, hi'])
def setCells (cs : Array Value) : Obj → Obj
  | .cells _ t frozen => .cells cs t frozen
  | o => o
noncomputable def KY (os : Os) : World :=
  { World.holding Tryz.prog os ⟨#[], #[], []⟩ with heap := (((World.holding Tryz.prog os ⟨#[], #[], []⟩).heap.modify 4 (setCells #[.int .u64 1, .int .u64 32898, .int .u64 9223372036854808714, .int .u64 9223372039002292224, .int .u64 32907, .int .u64 2147483649, .int .u64 9223372039002292353, .int .u64 9223372036854808585, .int .u64 138, .int .u64 136, .int .u64 2147516425, .int .u64 2147483658, .int .u64 2147516555, .int .u64 9223372036854775947, .int .u64 9223372036854808713, .int .u64 9223372036854808579, .int .u64 9223372036854808578, .int .u64 9223372036854775936, .int .u64 32778, .int .u64 9223372039002259466, .int .u64 9223372039002292353, .int .u64 9223372036854808704, .int .u64 2147483649, .int .u64 9223372039002292232])).modify 2 (setCells #[.int .i64 10, .int .i64 7, .int .i64 11, .int .i64 17, .int .i64 18, .int .i64 3, .int .i64 5, .int .i64 16, .int .i64 8, .int .i64 21, .int .i64 24, .int .i64 4, .int .i64 15, .int .i64 23, .int .i64 19, .int .i64 13, .int .i64 12, .int .i64 2, .int .i64 20, .int .i64 14, .int .i64 22, .int .i64 9, .int .i64 6, .int .i64 1])).modify 3 (setCells #[.int .i64 1, .int .i64 3, .int .i64 6, .int .i64 10, .int .i64 15, .int .i64 21, .int .i64 28, .int .i64 36, .int .i64 45, .int .i64 55, .int .i64 2, .int .i64 14, .int .i64 27, .int .i64 41, .int .i64 56, .int .i64 8, .int .i64 25, .int .i64 43, .int .i64 62, .int .i64 18, .int .i64 39, .int .i64 61, .int .i64 20, .int .i64 44]) }
structure Rep where
  s : Nat
  code : Int
  turn : Int
  found : Bool
  value : By
  pairs : List Pr
  root : By
  outer : Prf
  inner : Prf
def gZ : Prf := ⟨false, [], ([], [])⟩
def cX (s : Nat) (e : Int) : Rep := ⟨s, e, 0, false, [], [], [], gZ, gZ⟩
def mX (s : Nat) (t : Int) : Rep := ⟨s, 0, t, false, [], [], [], gZ, gZ⟩
structure Eng where
  up : Bool
  tape : Tp
  commits : List Cm
  forests : List aP
  synced : Nat
  txn : Nat → Option Tx
  waits : Nat → Bool
  waiting : List Nat
  replies : List Rep
def iJ {α : Type} (f : Nat → α) (s : Nat) (x : α) : Nat → α := fun i => if i = s then x else f i
theorem dV {α : Type} (f : Nat → α) (s : Nat) (x : α) : iJ f s x s = x := by simp [iJ]
theorem iP {α : Type} (f : Nat → α) {s i : Nat} (h : i ≠ s) (x : α) : iJ f s x i = f i := by simp [iJ, h]
namespace Eng
def reply (g : Eng) (r : Rep) : Eng := { g with replies := g.replies ++ [r] }
def setTxn (g : Eng) (s : Nat) (t : Option Tx) : Eng := { g with txn := iJ g.txn s t }
def forest (g : Eng) (k : Nat) : aP := g.forests.getD k []
def prove (g : Eng) (s : Nat) (r : Rq) : Eng :=
  let f := g.forest g.synced
  g.reply ⟨s, 0, g.synced, (jV f r.name r.key).isSome, (jV f r.name r.key).getD [], [], Ff f, TX (WO f) r.name, TX (dD f r.name) r.key⟩
def note (g : Eng) (s : Nat) (t : Tx) (r : Rd) (y : Rep) : Eng := match gH t r with
  | none => g.reply (cX s 11)
  | some u => (g.setTxn s (some u)).reply y
def put (g : Eng) (s : Nat) (t : Tx) (w : Wr) : Eng := match fD t w with
  | none => g.reply (cX s 11)
  | some u => (g.setTxn s (some u)).reply (cX s 0)
def look (g : Eng) (s : Nat) (t : Tx) (r : Rq) : Eng :=
  let o := cJ (g.forest t.start.toNat) t r.name r.key
  let y : Rep := ⟨s, 0, t.start, o.1.isSome, o.1.getD [], [], [], gZ, gZ⟩
  if o.2 then g.reply y else g.note s t ⟨r.name, r.key, false, r.last⟩ y
def scan (g : Eng) (s : Nat) (t : Tx) (r : Rq) : Eng := match IP (g.forest t.start.toNat) t r.name r.key r.last with
  | none => g.reply (cX s 11)
  | some l => g.note s t ⟨r.name, r.key, true, r.last⟩ ⟨s, 0, t.start, false, [], l, [], gZ, gZ⟩
def stand (g : Eng) (s : Nat) (t : Tx) (f : aP) : Eng := { g with
  tape := ⟨g.tape.data ++ bJ ⟨g.commits.length + 1, t.writes⟩, g.tape.synced⟩
  commits := g.commits ++ [⟨g.commits.length + 1, t.writes⟩]
  forests := g.forests ++ [f]
  txn := iJ g.txn s none
  waits := iJ g.waits s true
  waiting := g.waiting ++ [s] }
def commit (g : Eng) (s : Nat) (t : Tx) : Eng :=
  if t.writes = [] then (g.setTxn s none).reply (mX s t.start)
  else if g.commits.length - g.synced = 6 ∨ g.commits.length = 300 then g.reply (cX s 11)
  else if jR t.start t.reads g.commits then (g.setTxn s none).reply (cX s 9)
  else match gJ (g.forest g.commits.length) t.writes with
    | none => (g.setTxn s none).reply (cX s 11)
    | some f => g.stand s t f
def work (g : Eng) (s : Nat) (t : Tx) (k : Nat) (r : Rq) : Eng :=
  if k = 2 then g.look s t r else if k = 3 then g.scan s t r else if k = 6 then g.commit s t
  else g.put s t ⟨r.name, r.key, k == 5, r.value⟩
def keptB (n : Nat) (t : Int) : Bool := decide (0 ≤ t) && decide (t ≤ n) && decide (n - t < 6)
def req (g : Eng) (s : Nat) (k : Nat) (r : Rq) : Eng :=
  if k = 8 then g.prove s r
  else if g.waits s then g.reply (cX s 6)
  else match g.txn s with
    | none => if k = 1 then (g.setTxn s (some ⟨g.synced, [], []⟩)).reply (mX s g.synced) else g.reply (cX s 6)
    | some t => if k = 1 then g.reply (cX s 6)
      else if k = 7 then (g.setTxn s none).reply (cX s 0)
      else if keptB g.synced t.start then g.work s t k r
      else (g.setTxn s none).reply (cX s 10)
def ask (g : Eng) (s : Nat) (b : By) : Eng :=
  if g.up then (if wdE b = 0 then g.req s (wdR b).1 (wdR b).2 else g.reply (cX s (wdE b))) else g.reply (cX s 13)
def told : List Nat → Eng → Eng
  | [], g => g
  | s :: l, g => told l { g with synced := g.synced + 1, waits := iJ g.waits s false, replies := g.replies ++ [mX s (g.synced + 1 : Nat)] }
def sync (g : Eng) : Eng := if g.up then { told g.waiting { g with tape := ⟨g.tape.data, g.tape.data.length⟩ } with waiting := [] } else g
def crash (g : Eng) (k : Nat) : Eng := if g.up then
    let n := cE g.tape k
    let x := iH (g.tape.data.take n)
    { g with up := false, tape := ⟨(g.tape.data.take n).take x.2, min n x.2⟩, commits := x.1, forests := g.forests.take (x.1.length + 1), synced := x.1.length, txn := fun _ => none, waits := fun _ => false, waiting := [] }
  else g
def start (g : Eng) : Eng := { g with up := true }
end Eng
inductive Ac where
  | ask (s : Nat) (b : By)
  | sync
  | crash (k : Nat)
  | start
def Eng.act (g : Eng) : Ac → Eng
  | .ask s b => g.ask s b
  | .sync => g.sync
  | .crash k => g.crash k
  | .start => g.start
def wY : Eng := ⟨true, ⟨[], 0⟩, [], [[]], 0, fun _ => none, fun _ => false, [], []⟩
def dW (l : List Ac) : Eng := l.foldl Eng.act wY
theorem KZ (a b : List Ac) : dW (a ++ b) = b.foldl Eng.act (dW a) := List.foldl_append
def CH : Ac → Prop
  | .ask s b => s < 8 ∧ b.length ≤ 4000
  | .crash k => k ≤ 100000
  | _ => True
def isC : Ac → Bool
  | .ask _ b => wdE b == 0 && (wdR b).1 == 6
  | _ => false
structure EngOk (m : Nat) (g : Eng) : Prop where
  hist : HistOk (oO g.commits) g.commits
  many : g.commits.length ≤ m
  states : g.forests.length = g.commits.length + 1
  state : ∀ k, k ≤ g.commits.length → g.forest k = gK g.commits k
  ok : ∀ k, k ≤ g.commits.length → ForestOk 60 (gK g.commits k)
  data : g.tape.data = dG g.commits
  safe : g.tape.synced = (dG (g.commits.take g.synced)).length
  sync : g.commits.length = g.synced + g.waiting.length
  six : g.waiting.length ≤ 6
  txns : ∀ s t, g.txn s = some t → TxOk t ∧ t.start ≤ g.synced
  who : ∀ s ∈ g.waiting, s < 8
theorem EngOk.mono {m n : Nat} {g : Eng} (h : EngOk m g) (hn : m ≤ n) : EngOk n g := { h with many := Nat.le_trans h.many hn }
theorem EngOk.reply {m : Nat} {g : Eng} (h : EngOk m g) (r : Rep) : EngOk m (g.reply r) := ⟨h.hist, h.many, h.states, h.state, h.ok, h.data, h.safe, h.sync, h.six, h.txns, h.who⟩
theorem EngOk.setTxn {m : Nat} {g : Eng} (h : EngOk m g) (s : Nat) {t : Option Tx} (ht : ∀ u, t = some u → TxOk u ∧ u.start ≤ g.synced) : EngOk m (g.setTxn s t) := by
 refine ⟨h.hist, h.many, h.states, h.state, h.ok, h.data, h.safe, h.sync, h.six, fun i u hu => ?_, h.who⟩
 by_cases e : i = s
 subst e
 simp only [Eng.setTxn, dV] at hu
 exact ht u hu
 simp only [Eng.setTxn, iP _ e] at hu
 exact h.txns i u hu
theorem EngOk.setNone {m : Nat} {g : Eng} (h : EngOk m g) (s : Nat) : EngOk m (g.setTxn s none) := h.setTxn s (fun u hu => by cases hu)
theorem EngOk.note {m : Nat} {g : Eng} (h : EngOk m g) {s : Nat} {t : Tx} (ht : TxOk t ∧ t.start ≤ g.synced) {r : Rd} (hr : RdOk r) (y : Rep) : EngOk m (g.note s t r y) := by
 unfold Eng.note
 cases e : gH t r with
 | none => exact h.reply _
 | some u =>
  refine (h.setTxn s (fun v hv => ?_)).reply _
  cases hv
  exact ⟨TS ht.1 hr e, by rw [(tF e).2.2]; exact ht.2⟩
theorem EngOk.put {m : Nat} {g : Eng} (h : EngOk m g) {s : Nat} {t : Tx} (ht : TxOk t ∧ t.start ≤ g.synced) {w : Wr} (hw : WrOk w) : EngOk m (g.put s t w) := by
 unfold Eng.put
 cases e : fD t w with
 | none => exact h.reply _
 | some u =>
  refine (h.setTxn s (fun v hv => ?_)).reply _
  cases hv
  exact ⟨RG ht.1 hw e, by rw [(MP e).2.2.1]; exact ht.2⟩
theorem XC {t : Tx} (ht : TxOk t) (h : t.writes ≠ []) : 1 ≤ t.writes.length := by
 cases e : t.writes with
 | nil => exact absurd e h
 | cons a l => simp
theorem EngOk.commit {m : Nat} {g : Eng} (h : EngOk m g) (hm : m ≤ 1000) {s : Nat} (hs : s < 8) {t : Tx} (ht : TxOk t ∧ t.start ≤ g.synced) : EngOk (m + 1) (g.commit s t) := by
 have h1 := h.mono (Nat.le_succ m)
 unfold Eng.commit
 split
 exact (h1.setNone s).reply _
 split
 exact h1.reply _
 split
 exact (h1.setNone s).reply _
 rename_i hw hq hc
 cases e : gJ (g.forest g.commits.length) t.writes with
 | none => exact (h1.setNone s).reply _
 | some f =>
  have hn := h.many
  have hy := h.sync
  simp only
  rw [h.state _ (Nat.le_refl _)] at e
  have hk := h.hist.snoc ht.1.writes (XC ht.1 hw) ht.1.nw (Nat.le_refl _) (by omega) e
  have hsz : oO (g.commits ++ [⟨g.commits.length + 1, t.writes⟩]) = oO g.commits + t.writes.length := by simp [nA, oO]
  have hof : ForestOk 60 f := by
   have := qB ht.1.writes (f := gK g.commits g.commits.length)
   rw [e] at this
   have h2 := sK (h.ok _ (Nat.le_refl _)) (ws := t.writes) (by rw [this])
   rw [this] at h2
   exact h2
  have hst : ∀ k, k ≤ g.commits.length → gK (g.commits ++ [⟨g.commits.length + 1, t.writes⟩]) k = gK g.commits k := fun k hk => by
   unfold gK; rw [List.take_append_of_le_length hk]
  unfold Eng.stand
  refine ⟨by rw [hsz]; exact hk.1, by simp; omega, by simp [h.states], fun k hk' => ?_, fun k hk' => ?_, ?_, ?_, ?_, ?_, fun i u hu => ?_, fun i hi => ?_⟩
  simp only [List.length_append, List.length_singleton] at hk'
  by_cases ek : k = g.commits.length + 1
  subst ek
  simp only [hk.2]
  unfold Eng.forest
  simp [List.getD, h.states]
  simp only [hst k (by omega)]
  rw [← h.state k (by omega)]
  unfold Eng.forest
  simp only [List.getD]
  rw [List.getElem?_append_left (by rw [h.states]; omega)]
  simp only [List.length_append, List.length_singleton] at hk'
  by_cases ek : k = g.commits.length + 1
  subst ek; simp only [hk.2]; exact hof
  simp only [hst k (by omega)]; exact h.ok k (by omega)
  simp only [wW, h.data]
  simp [dG]
  simp only
  rw [List.take_append_of_le_length (by omega)]
  exact h.safe
  simp; omega
  have := h.six
  simp only [not_or] at hq
  simp; omega
  simp only at hu
  by_cases ei : i = s
  subst ei; rw [dV] at hu; cases hu
  rw [iP _ ei] at hu; exact h.txns i u hu
  simp only [List.mem_append, List.mem_singleton] at hi
  rcases hi with hi | rfl
  exact h.who i hi
  exact hs
def uZ : List Nat → Nat → List Rep
  | [], _ => []
  | s :: l, n => mX s ((n + 1 : Nat) : Int) :: uZ l (n + 1)
theorem QN : ∀ (l : List Nat) (g : Eng), Eng.told l g = { g with synced := g.synced + l.length, waits := fun i => if i ∈ l then false else g.waits i, replies := g.replies ++ uZ l g.synced }
  | [], g => by simp [Eng.told, uZ]
  | s :: l, g => by
    rw [Eng.told, QN l]
    simp only [uZ, List.length_cons, List.append_assoc, List.singleton_append, Eng.mk.injEq, true_and, and_true]
    refine ⟨by omega, ?_⟩
    funext i
    by_cases e : i = s
    · subst e; simp [iJ]
    · simp [iJ, e]
theorem wZ {g : Eng} (h : g.up = true) : g.sync = { g with tape := ⟨g.tape.data, g.tape.data.length⟩, synced := g.synced + g.waiting.length, waits := fun i => if i ∈ g.waiting then false else g.waits i, waiting := [], replies := g.replies ++ uZ g.waiting g.synced } := by
 unfold Eng.sync
 rw [if_pos h, QN]
theorem EngOk.syncs {m : Nat} {g : Eng} (h : EngOk m g) : EngOk m g.sync := by
 cases hu : g.up with
 | false => unfold Eng.sync; rw [hu]; exact h
 | true =>
  rw [wZ hu]
  have := h.sync
  exact ⟨h.hist, h.many, h.states, h.state, h.ok, h.data, by simp only; rw [h.data, List.take_of_length_le (by omega)], by simp; omega, by simp, fun s t ht => ⟨(h.txns s t ht).1, by have := (h.txns s t ht).2; simp only; omega⟩, by simp⟩
theorem HistOk.own {m : Nat} {cs : List Cm} (h : HistOk m cs) : HistOk (oO cs) cs := { h with size := Nat.le_refl _ }
theorem uA {t : Tp} (h : t.synced ≤ t.data.length) (k : Nat) : t.synced ≤ cE t k ∧ cE t k ≤ t.data.length := by unfold cE; omega
theorem LA {cs : List Cm} (hok : ∀ c ∈ cs, CmOk c) {n : Nat} (hn : n ≤ (dG cs).length) : ((dG cs).take n).take (dG (cs.take (fJ cs n))).length = dG (cs.take (fJ cs n)) := by
 obtain ⟨t, h1, _⟩ := xY cs n 0 hok hn
 rw [h1, List.take_left' rfl]
theorem EngOk.syn {m : Nat} {g : Eng} (h : EngOk m g) : g.tape.synced ≤ g.tape.data.length := by
 rw [h.safe, h.data]
 have e : dG g.commits = dG (g.commits.take g.synced) ++ dG (g.commits.drop g.synced) := by rw [← wW, List.take_append_drop]
 rw [e, List.length_append]; omega
def Eng.left (g : Eng) (k : Nat) : Nat := fJ g.commits (cE g.tape k)
theorem LB {m : Nat} {g : Eng} (h : EngOk m g) (hu : g.up = true) (k : Nat) : g.crash k = { g with up := false, tape := ⟨dG (g.commits.take (g.left k)), (dG (g.commits.take (g.left k))).length⟩, commits := g.commits.take (g.left k), forests := g.forests.take (g.left k + 1), synced := g.left k, txn := fun _ => none, waits := fun _ => false, waiting := [] } := by
 have hn := (uA h.syn k).2
 have hr := KN h.hist (n := cE g.tape k) (by rw [← h.data]; exact hn)
 have ht := LA h.hist.ok (n := cE g.tape k) (by rw [← h.data]; exact hn)
 have hw := FD g.commits (cE g.tape k)
 have hl := xX g.commits (cE g.tape k)
 unfold Eng.crash
 rw [if_pos hu]
 simp only
 rw [show g.tape.data.take (cE g.tape k) = (dG g.commits).take (cE g.tape k) from by rw [h.data], hr]
 simp only [ht]
 have e : (g.commits.take (fJ g.commits (cE g.tape k))).length = fJ g.commits (cE g.tape k) := by rw [List.length_take]; omega
 rw [e, Nat.min_eq_right hw]
 rfl
theorem EngOk.left_le {m : Nat} {g : Eng} (h : EngOk m g) (k : Nat) : g.synced ≤ g.left k ∧ g.left k ≤ g.commits.length := by
 refine ⟨KO _ _ _ (by have := h.sync; omega) ?_, xX _ _⟩
 rw [← h.safe]; exact (uA h.syn k).1
theorem EngOk.crashs {m : Nat} {g : Eng} (h : EngOk m g) (k : Nat) : EngOk m (g.crash k) := by
 cases hu : g.up with
 | false => unfold Eng.crash; rw [hu]; exact h
 | true =>
  rw [LB h hu]
  have hl := (h.left_le k).2
  have hn := h.many
  have hs := h.states
  have e : (g.commits.take (g.left k)).length = g.left k := by rw [List.length_take]; omega
  refine ⟨(h.hist.take _).own, by simp only; omega, by simp only; rw [e, List.length_take]; omega, fun j hj => ?_, fun j hj => ?_, rfl, by simp only; rw [List.take_take, Nat.min_self], by simp [e], by simp, fun s t ht => (by cases ht), by simp⟩
  simp only [e] at hj ⊢
  rw [AQ hj, ← h.state j (by omega)]
  unfold Eng.forest
  simp only [List.getD, List.getElem?_take]
  rw [if_pos (by omega)]
  simp only [e] at hj ⊢
  rw [AQ hj]; exact h.ok j (by omega)
theorem EngOk.starts {m : Nat} {g : Eng} (h : EngOk m g) : EngOk m g.start := ⟨h.hist, h.many, h.states, h.state, h.ok, h.data, h.safe, h.sync, h.six, h.txns, h.who⟩
theorem XD {k : Nat} {r : Rq} (ok : RqOk k r) (hk : k = 2 ∨ k = 3) : RdOk ⟨r.name, r.key, k == 3, r.last⟩ := by
 obtain ⟨a1, a2, a3, a4, a5, a6, a7, a8⟩ := sZ (h := bB k) ok.fits
 rcases hk with rfl | rfl
 ·exact ⟨a1 rfl, a2 rfl, List.eq_nil_of_length_eq_zero (a7 rfl)⟩
 ·exact ⟨a1 rfl, a2 rfl, a3 rfl⟩
theorem Ec {k : Nat} {r : Rq} (ok : RqOk k r) (hk : k = 4 ∨ k = 5) : WrOk ⟨r.name, r.key, k == 5, r.value⟩ := by
 obtain ⟨a1, a2, a3, a4, a5, a6, a7, a8⟩ := sZ (h := bB k) ok.fits
 rcases hk with rfl | rfl
 ·exact ⟨a1 rfl, (a2 rfl).1, (a2 rfl).2, a4, fun h => by cases h⟩
 ·exact ⟨a1 rfl, (a2 rfl).1, (a2 rfl).2, a4, fun _ => List.eq_nil_of_length_eq_zero (a8 rfl)⟩
theorem EngOk.req {m : Nat} {g : Eng} (h : EngOk m g) (hm : m ≤ 1000) {s : Nat} (hs : s < 8) {k : Nat} {r : Rq} (ok : RqOk k r) : EngOk (m + if k = 6 then 1 else 0) (g.req s k r) := by
 obtain ⟨c, hc⟩ : ∃ c, c = if k = 6 then 1 else 0 := ⟨_, rfl⟩
 rw [← hc]
 have h1 := h.mono (Nat.le_add_right m c)
 have hk := ok.kind
 unfold Eng.req
 split
 exact h1.reply _
 split
 exact h1.reply _
 split
 split
 refine (h1.setTxn s (fun u hu => ?_)).reply _
 cases hu
 have hy := h.sync
 have hn := h.many
 exact ⟨⟨by simp; omega, by simp, by simp, by simp, by simp, by simp, by simp⟩, by simp⟩
 exact h1.reply _
 rename_i t ht
 have htx := h.txns s t ht
 split
 exact h1.reply _
 split
 exact (h1.setNone s).reply _
 split
 unfold Eng.work
 split
 rename_i e
 subst e
 unfold Eng.look
 simp only
 split
 exact h1.reply _
 exact h1.note htx (XD ok (.inl rfl)) _
 split
 rename_i e
 subst e
 unfold Eng.scan
 split
 exact h1.reply _
 exact h1.note htx (XD ok (.inr rfl)) _
 split
 rename_i e
 rw [hc, if_pos e]
 exact h.commit hm hs htx
 refine h1.put htx (Ec ok (by omega))
 exact (h1.setNone s).reply _
theorem EngOk.act {m : Nat} {g : Eng} (h : EngOk m g) (hm : m ≤ 1000) {a : Ac} (ha : CH a) : EngOk (m + if isC a then 1 else 0) (g.act a) := by
 cases a with
 | ask s b =>
  obtain ⟨c, hc⟩ : ∃ c, c = if isC (.ask s b) then 1 else 0 := ⟨_, rfl⟩
  rw [← hc]
  unfold Eng.act Eng.ask
  simp only
  have h1 := h.mono (Nat.le_add_right m c)
  split
  split
  rename_i e
  have := h.req hm ha.1 (KU e).1
  refine this.mono ?_
  rw [hc]
  unfold isC
  simp only [e, beq_self_eq_true, Bool.true_and, beq_iff_eq]
  exact Nat.le_refl _
  exact h1.reply _
  exact h1.reply _
 | sync => exact h.syncs
 | crash k => exact h.crashs k
 | start => exact h.starts
theorem Bk : EngOk 0 wY := by
 refine ⟨HistOk.nil _, by simp [wY], by simp [wY], fun k hk => ?_, fun k hk => ?_, rfl, rfl, rfl, by simp [wY], fun s t h => (by cases h), by simp [wY]⟩
 have : k = 0 := by simpa [wY] using hk
 subst this; rfl
 have : k = 0 := by simpa [wY] using hk
 subst this; exact ForestOk.nil _
def gM (l : List Ac) : Nat := (l.map fun a => if isC a then 1 else 0).sum
theorem EngOk.run : ∀ (l : List Ac) {m : Nat} {g : Eng}, EngOk m g → m + gM l ≤ 1000 → (∀ a ∈ l, CH a) → EngOk (m + gM l) (l.foldl Eng.act g)
  | [], m, g, h, _, _ => h
  | a :: l, m, g, h, hm, ha => by
    have e : gM (a :: l) = (if isC a then 1 else 0) + gM l := by simp [gM]
    rw [e] at hm ⊢
    rw [List.foldl_cons, ← Nat.add_assoc]
    exact EngOk.run l (h.act (by omega) (ha a (by simp))) (by omega) (fun x hx => ha x (by simp [hx]))
theorem OI {l : List Ac} (hl : gM l ≤ 1000) (ha : ∀ a ∈ l, CH a) : EngOk (gM l) (dW l) := by
 have := EngOk.run l Bk (by omega) ha
 rwa [Nat.zero_add] at this
open Go.RowKit
set_option maxRecDepth 100000
set_option linter.unusedVariables false
set_option linter.unusedSimpArgs false
def TxB (F : Fz) (v : Value) : Option Tx → Prop
  | none => v = .pointer none
  | some t => ∃ b x0 y0 x1 y1, v = .pointer (some ⟨b, 0, none⟩) ∧ bH F b 0 = some (.int .i64 t.start) ∧ bH F b 1 = some (.slice x0 t.reads.length y0) ∧ bH F b 2 = some (.slice x1 t.writes.length y1) ∧ Rds F (.slice x0 t.reads.length y0) t.reads ∧ Wrs F (.slice x1 t.writes.length y1) t.writes
theorem TxB.mono {F F' : Fz} {v : Value} {t : Option Tx} (h : TxB F v t) (hl : Le F F') : TxB F' v t := by
 cases t with
 | none => exact h
 | some t =>
  obtain ⟨b, x0, y0, x1, y1, h0, h1, h2, h3, h4, h5⟩ := h
  exact ⟨b, x0, y0, x1, y1, h0, hl.cell h1, hl.cell h2, hl.cell h3, h4.mono hl, h5.mono hl⟩
theorem TxB.oneCell {F : Fz} {v : Value} {t : Option Tx} (h : TxB F v t) : v.oneCell' = true := by
 cases t with
 | none => rw [show v = .pointer none from h]; rfl
 | some t => obtain ⟨b, x0, y0, x1, y1, rfl, _⟩ := h; rfl
def RpC (F : Fz) (cs : List Value) (r : Rep) : Prop := ∃ v p q a1 a2 a3 b1 b2 b3, cs = [.int .i64 ((r.s : Nat) : Int), .int .i64 r.code, .int .i64 r.turn, .bool r.found, v, p, q, .bool r.outer.empty, a1, a2, a3, .bool r.inner.empty, b1, b2, b3] ∧
  Bs F v r.value ∧ Prs F p r.pairs ∧ Bs F q r.root ∧ Stps F a1 r.outer.steps ∧ Bs F a2 r.outer.pair.1 ∧ Bs F a3 r.outer.pair.2 ∧ Stps F b1 r.inner.steps ∧ Bs F b2 r.inner.pair.1 ∧ Bs F b3 r.inner.pair.2
theorem RpC.mono (F F' : Fz) (x : List Value) (p : Rep) (hl : Le F F') (h : RpC F x p) : RpC F' x p := by
 obtain ⟨v, u, q, a1, a2, a3, b1, b2, b3, e, h1, h2, h3, h4, h5, h6, h7, h8, h9⟩ := h
 exact ⟨v, u, q, a1, a2, a3, b1, b2, b3, e, h1.mono hl, h2.mono hl, h3.mono hl, h4.mono hl, h5.mono hl, h6.mono hl, h7.mono hl, h8.mono hl, h9.mono hl⟩
theorem RpC.oneCell {F : Fz} {cs : List Value} {p : Rep} (h : RpC F cs p) : ∀ u ∈ cs, u.oneCell' = true := by
 obtain ⟨v, u, q, a1, a2, a3, b1, b2, b3, rfl, h1, h2, h3, h4, h5, h6, h7, h8, h9⟩ := h
 intro x hx
 simp only [List.mem_cons, List.not_mem_nil, or_false] at hx
 rcases hx with rfl | rfl | rfl | rfl | rfl | rfl | rfl | rfl | rfl | rfl | rfl | rfl | rfl | rfl | rfl
 all_goals first | rfl | exact h1.oneCell | exact h2.oneCell | exact h3.oneCell | exact h4.oneCell | exact h5.oneCell | exact h6.oneCell | exact h7.oneCell | exact h8.oneCell | exact h9.oneCell
theorem RpC.len {F : Fz} {cs : List Value} {p : Rep} (h : RpC F cs p) : cs.length = 15 := by
 obtain ⟨v, u, q, a1, a2, a3, b1, b2, b3, rfl, _⟩ := h; rfl
abbrev Rps (F : Fz) (v : Value) (l : List Rep) : Prop := Sl 15 RpC F v l
def FoC (F : Fz) (cs : List Value) (f : aP) : Prop := ∃ v, cs = [v] ∧ Tns F v f
theorem FoC.mono (F F' : Fz) (x : List Value) (p : aP) (hl : Le F F') (h : FoC F x p) : FoC F' x p := by
 obtain ⟨v, e, h⟩ := h; exact ⟨v, e, Tns.mono h hl⟩
theorem FoC.oneCell {F : Fz} {cs : List Value} {p : aP} (h : FoC F cs p) : ∀ u ∈ cs, u.oneCell' = true := by
 obtain ⟨v, rfl, h⟩ := h
 intro u hu; rw [List.mem_singleton.1 hu]; exact Tns.oneCell h
def NtC (F : Fz) (cs : List Value) (n : Nat) : Prop := cs = [.int .i64 ((n : Nat) : Int)]
theorem NtC.mono (F F' : Fz) (x : List Value) (p : Nat) (hl : Le F F') (h : NtC F x p) : NtC F' x p := h
theorem NtC.oneCell {F : Fz} {cs : List Value} {p : Nat} (h : NtC F cs p) : ∀ u ∈ cs, u.oneCell' = true := by
 rw [show cs = _ from h]; intro u hu; rw [List.mem_singleton.1 hu]; rfl
def lZ (up : Bool) (td : Value) (ts : Nat) (vc vf : Value) (sy : Nat) (pv : Nat → Value) (wv : Nat → Bool) (vw vr : Value) : List Value :=
  [.bool up, td, .int .i64 ((ts : Nat) : Int), vc, vf, .int .i64 ((sy : Nat) : Int), pv 0, .bool (wv 0), pv 1, .bool (wv 1), pv 2, .bool (wv 2), pv 3, .bool (wv 3), pv 4, .bool (wv 4), pv 5, .bool (wv 5), pv 6, .bool (wv 6), pv 7, .bool (wv 7), vw, vr]
section
variable {up : Bool} {td : Value} {ts : Nat} {vc vf : Value} {sy : Nat} {pv : Nat → Value} {wv : Nat → Bool} {vw vr : Value} {s : Nat}
theorem lt8 (hs : s < 8) : s = 0 ∨ s = 1 ∨ s = 2 ∨ s = 3 ∨ s = 4 ∨ s = 5 ∨ s = 6 ∨ s = 7 := by omega
theorem eI (hs : s < 8) : (lZ up td ts vc vf sy pv wv vw vr)[6 + s * 2]? = some (pv s) := by
 rcases lt8 hs with rfl | rfl | rfl | rfl | rfl | rfl | rfl | rfl <;> rfl
theorem oH (hs : s < 8) : (lZ up td ts vc vf sy pv wv vw vr)[6 + s * 2 + 1]? = some (.bool (wv s)) := by
 rcases lt8 hs with rfl | rfl | rfl | rfl | rfl | rfl | rfl | rfl <;> rfl
theorem lC : (lZ up td ts vc vf sy pv wv vw vr).length = 24 := rfl
theorem oI (hs : s < 8) (x : Value) : bQ (lZ up td ts vc vf sy pv wv vw vr) (6 + s * 2) [x] = lZ up td ts vc vf sy (iJ pv s x) wv vw vr := by
 rcases lt8 hs with rfl | rfl | rfl | rfl | rfl | rfl | rfl | rfl <;> rfl
theorem CI (hs : s < 8) (b : Bool) : bQ (lZ up td ts vc vf sy pv wv vw vr) (6 + s * 2 + 1) [.bool b] = lZ up td ts vc vf sy pv (iJ wv s b) vw vr := by
 rcases lt8 hs with rfl | rfl | rfl | rfl | rfl | rfl | rfl | rfl <;> rfl
end
abbrev oJ (b : Nat) (vc : Value) (cs : List Cm) (vf : Value) (fs : List aP) (vw : Value) (ws : List Nat) (vr : Value) (rs : List Rep) : List RowP :=
  [bV 2 CmC CmC.mono 168 b vc cs, bV 1 FoC FoC.mono 24 b vf fs, bV 1 NtC NtC.mono 3 b vw ws, bV 15 RpC RpC.mono 54 b vr rs]
def EngM (w0 : World) (F0 : Fz) (w : World) (F : Fz) (n : Nat) (g : Eng) (L : List Blk) : Prop := ∃ ad cd ac cc af cf aw cw ar cr pv,
  St w0 F0 w F (⟨n, lZ g.up (.slice ad g.tape.data.length cd) g.tape.synced (.slice ac g.commits.length cc) (.slice af g.forests.length cf) g.synced pv g.waits (.slice aw g.waiting.length cw) (.slice ar g.replies.length cr), 115⟩ :: L) (oJ w0.heap.size (.slice ac g.commits.length cc) g.commits (.slice af g.forests.length cf) g.forests (.slice aw g.waiting.length cw) g.waiting (.slice ar g.replies.length cr) g.replies) ∧
  Bs F (.slice ad g.tape.data.length cd) g.tape.data ∧ ∀ s, s < 8 → TxB F (pv s) (g.txn s)
section
variable {w0 w w' : World} {F0 F F' : Fz} {n : Nat} {g : Eng} {L L' : List Blk} {M : List RowP}
theorem EngM.drop (h : EngM w0 F0 w F n g L) (hs : L'.Sublist L) : EngM w0 F0 w F n g L' := by
 obtain ⟨ad, cd, ac, cc, af, cf, aw, cw, ar, cr, pv, S, h1, h2⟩ := h
 exact ⟨ad, cd, ac, cc, af, cf, aw, cw, ar, cr, pv, S.drop (hs.cons_cons _), h1, h2⟩
theorem EngM.gives (h : EngM w0 F0 w F n g L) (k : Gr w F w' F') : EngM w0 F0 w' F' n g L := by
 obtain ⟨ad, cd, ac, cc, af, cf, aw, cw, ar, cr, pv, S, h1, h2⟩ := h
 have hl := k.le' S.sat
 exact ⟨ad, cd, ac, cc, af, cf, aw, cw, ar, cr, pv, S.gives k, h1.mono hl, fun s hs => (h2 s hs).mono hl⟩
theorem EngM.sat (h : EngM w0 F0 w F n g L) : Sat w F := by obtain ⟨ad, cd, ac, cc, af, cf, aw, cw, ar, cr, pv, S, _⟩ := h; exact S.sat
theorem EngM.below (h : EngM w0 F0 w F n g L) : Below w0.heap.size w0 w := by obtain ⟨ad, cd, ac, cc, af, cf, aw, cw, ar, cr, pv, S, _⟩ := h; exact S.gr.below
theorem St.perm (S : St w0 F0 w F L M) (h : L.Perm L') : St w0 F0 w F L' M := ⟨S.gr, fun x hx => S.blk x (h.mem_iff.2 hx), S.row, (h.pairwise_iff (fun hne => Ne.symm hne)).1 S.bb, fun r hr x hx => S.rb r hr x (h.mem_iff.2 hx), S.rr⟩
end
def xA (w0 : World) (F0 F : Fz) (n : Nat) (g : Eng) (L : List Blk) (e : Ending) (w' : World) : Prop := e = .returned (.tuple #[]) ∧ ∃ F', Le F F' ∧ EngM w0 F0 w' F' n g L
theorem rJ {F : Fz} {pv : Nat → Value} {tx : Nat → Option Tx} (h : ∀ i, i < 8 → TxB F (pv i) (tx i)) {x : Value} {t : Option Tx} (hx : TxB F x t) (s : Nat) : ∀ i, i < 8 → TxB F (iJ pv s x i) (iJ tx s t i) := by
 intro i hi
 by_cases e : i = s
 ·subst e; rw [dV, dV]; exact hx
 ·rw [iP _ e, iP _ e]; exact h i hi
theorem dU {F F' : Fz} {pv : Nat → Value} {tx : Nat → Option Tx} (h : ∀ i, i < 8 → TxB F (pv i) (tx i)) (hl : Le F F') : ∀ i, i < 8 → TxB F' (pv i) (tx i) := fun i hi => (h i hi).mono hl
theorem CJ {w : World} {F : Fz} {n : Nat} {c : List Value} (hs : Sat w F) (h : ∀ (j : Nat) v, c[j]? = some v → bH F n j = some v) : w.rangeAt n 0 c := fun k v hk => by rw [Nat.zero_add]; exact hs.cell (h k v hk)
theorem Le.cells {F F' : Fz} {n : Nat} {c : List Value} (hl : Le F F') (h : ∀ (j : Nat) v, c[j]? = some v → bH F n j = some v) : ∀ (j : Nat) v, c[j]? = some v → bH F' n j = some v := fun j v hv => hl.cell (h j v hv)
theorem zY {P : Program} {ρ : Operand → Value} {w : World} {d : Option Tmp} {t X Y e : TypeId} {pos : String} {after : Array Edge} {guard : Option (Nat × Bool)} {x y : Operand} {p : Option Addr} (hX : P.underlying X = some (.pointer e)) (hx : ρ x = .pointer p) (hy : ρ y = .pointer none) :
    (execOp ρ ⟨d, .binOp .neq X x y Y, t, pos, after, guard⟩).run P w = .ok (.value (.bool (!p.isNone))) w := by
 have hp : P.pointee X = e := by simp [Program.pointee, hX]
 have e1 := run_neq_pointer_nil (P := P) w X p (by rw [hp]; exact hX)
 have e2 : (eqGuard .neq X x y (.pointer p) (.pointer none)).run P w = .ok () w := rfl
 simp only [execOp, hx, hy, Sem.run_bind, e2, Result.andThen_ok, e1, Sem.run_pure]
theorem XE {P : Program} {ρ : Operand → Value} {w : World} {d : Option Tmp} {t X E : TypeId} {n : Nat} {pos : String} {after : Array Edge} {guard : Option (Nat × Bool)} {x y : Operand} {b o i : Nat} (hX : P.underlying X = some (.array n E)) (hs : (sizeOf E).run P w = .ok 2 w) (hx : ρ x = .pointer (some ⟨b, o, none⟩)) (hy : ρ y = .int .i64 i) (hi : i < n) :
    (execOp ρ ⟨d, .indexAddr X x y, t, pos, after, guard⟩).run P w = .ok (.value (.pointer (some ⟨b, o + i * 2, none⟩))) w := by
 have hadd : (⟨b, o, none⟩ : Addr).add (i * 2) = ⟨b, o + i * 2, none⟩ := Addr.add_mid b o (i * 2)
 have hlt : (0 : Int) ≤ (i : Int) ∧ (i : Int) < (n : Int) := by omega
 simp [execOp, hx, hy, Instr.indexAt, Instr.sureAddr, asIntOf, Sem.run_bind, Sem.run_pure, Result.andThen_ok, run_underlying hX w, hs, hadd, hlt, hi]
theorem Ed : (Tryz.prog.info? 3).map (fun i => (i.zero, i.size, i.bytes)) = some (some (.int .i64 0), 1, 8) := by kernel_rfl
theorem QO : (Tryz.prog.info? 24).map (fun i => (i.zero, i.size, i.bytes)) = some (some (.slice none 0 0), 1, 24) := by kernel_rfl
theorem XF {E base : Nat} {w : World} {F : Fz} {l : List aP} {a : Option Addr} {n c : Nat} (h : Own 1 FoC E base w F (.slice a n c) l) {i : Nat} {f : aP} (hp : l[i]? = some f) :
    ∃ g, a = some ⟨g, 0, none⟩ ∧ ∃ xa xc, w.cell? ⟨g, 0 + i * 1, none⟩ = some (.slice xa f.length xc) ∧ Tns F (.slice xa f.length xc) f := by
 obtain ⟨g, cs, e, _, ⟨x, rfl, r1⟩, hr⟩ := h.at hp
 obtain ⟨xa, xc, rfl, _⟩ := Sl.shape r1
 refine ⟨g, e, xa, xc, ?_, r1⟩
 have := hr 0 _ rfl; rw [Nat.zero_add]; simpa using this
theorem Fj {E base : Nat} {w : World} {F : Fz} {l : List Nat} {a : Option Addr} {n c : Nat} (h : Own 1 NtC E base w F (.slice a n c) l) {i : Nat} {m : Nat} (hp : l[i]? = some m) :
    ∃ g, a = some ⟨g, 0, none⟩ ∧ w.cell? ⟨g, 0 + i * 1, none⟩ = some (.int .i64 ((m : Nat) : Int)) := by
 obtain ⟨g, cs, e, _, r1, hr⟩ := h.at hp
 rw [show cs = _ from r1] at hr
 refine ⟨g, e, ?_⟩
 have := hr 0 _ rfl; rw [Nat.zero_add]; simpa using this
theorem xB {P : Program} {o : Oper} {a : Act} {w : World} {v : Value} (h : (execOp a.eval o).run P w = .ok (.value v) w) : kU P o a w (xF v w) := by
 unfold kU
 rw [h]
 exact ⟨rfl, Below.refl _ _⟩
abbrev Ee (F : Fz) (n : Nat) (c : List Value) (T : TypeId) (w : World) : Prop := Sat w F ∧ w.heap[n]? = some (.cells c.toArray T (0, 0))
theorem Cq {w : World} {n : Nat} {c : List Value} {T : TypeId} {fr : Nat × Nat} {j : Nat} {v : Value} (h : w.heap[n]? = some (.cells c.toArray T fr)) (hv : c[j]? = some v) : w.cell? ⟨n, j, none⟩ = some v := by simp [World.cell?, h, hv]
structure HE (P : Program) (ops : Array Oper) (Q : Exit → Act → World → Prop) (S : World → Prop) (fuel : Nat) (listed : Array Bool) (a : Act) (w : World) : Prop where
  out : Go.wpAnyH P .any ops Q S fuel listed a w
section
variable {P : Program} {ops : Array Oper} {Q : Exit → Act → World → Prop} {R : World → Prop} {fuel : Nat} {listed : Array Bool} {a : Act} {w w0 : World} {o : Oper} {F0 F F' : Fz} {L : List Blk} {M : List RowP} {i n : Nat} {c : List Value} {T : TypeId}
theorem eX (S : St w0 F0 w F' L M) (hl : Le F F') (hL : L[i]? = some ⟨n, c, T⟩) : Ee F n c T w := ⟨S.sat.le hl, (S.blk _ (St.mem hL)).1⟩
theorem FF {id : Nat} {l : List Oper} (S : St w0 F0 w F L M) (hL : L[i]? = some ⟨n, c, T⟩) (hm : P.follows .mixedOrders = true) (h : ∀ w', St w0 F0 w' F L M → HE P l.toArray Q (Ee F n c T) l.length (Array.replicate l.length false) a w') : (Code.region id l.toArray true).wp P Q a w := by
 have := (h { w with drawn := w.drawn + 1 } (S.tells (Below.refl w.heap.size w).drew)).out
 refine wp_region_held (S := Ee F n c T) hm ?_
 simpa using this
theorem xC {l : List Oper} (i : Nat) (hi : l[i]? = some o) (hc : jO l.toArray listed i = true) {v : Value} (hQ : ∀ c a w, Q (.panic c) (a.put o.dst v) w → Q (.panic c) a w) (hS : R w) (hw : Region.wanted o (yielded l.toArray a.tmps) = true)
    (hr : ∀ w1, R w1 → (execOp a.eval o).run P w1 = .ok (.value v) w1) (h : HE P l.toArray Q R fuel (listed.setIfInBounds i true) (a.put o.dst v) w) : HE P l.toArray Q R (fuel + 1) listed a w := by
 simp only [jO, Bool.and_eq_true] at hc
 exact ⟨Go.wpAnyH_take (by simpa using hi) hc.1.1 hc.1.2 hc.2 hQ (.inl ⟨hw, hr⟩) hS h.out⟩
theorem OJ {l : List Oper} (m : Nat) (hm : l[m]? = some o) (h : WL P l.toArray (Exit.then (fun a' w' => R w' ∧ Go.wpAnyH P .any l.toArray Q R fuel (listed.setIfInBounds m true) a' w') Q) [o] a w) : wpOp P l.toArray Q m (fun a' w' => R w' ∧ Go.wpAnyH P .any l.toArray Q R fuel (listed.setIfInBounds m true) a' w') a w := by
 have h1 := h.out
 unfold wpList at h1
 unfold wpOp
 have hi' : l.toArray[m]? = some o := by simpa using hm
 simp only [hi']
 split
 rename_i hw
 rw [if_pos hw] at h1
 rcases h1 with h1 | h1
 left
 refine Oper.wp_mono (fun a' w' hk => ?_) (Oper.wp_exit h1)
 exact hk
 exact .inr h1
 rename_i hw
 rw [if_neg hw] at h1
 exact h1
theorem pD {l : List Oper} (i : Nat) (hr : Region.ready .any l.toArray listed = [i]) (hi : l[i]? = some o) (h : WL P l.toArray (Exit.then (fun a' w' => R w' ∧ Go.wpAnyH P .any l.toArray Q R fuel (listed.setIfInBounds i true) a' w') Q) [o] a w) : HE P l.toArray Q R (fuel + 1) listed a w := by
 refine ⟨Go.wpAnyH_all hr (by simp) fun j hj => ?_⟩
 obtain rfl : j = i := by simpa using hj
 exact OJ j hi h
theorem XG {l : List Oper} {o1 o2 : Oper} (i j : Nat) (hr : Region.ready .any l.toArray listed = [i, j]) (hi : l[i]? = some o1) (hj : l[j]? = some o2)
    (h1 : WL P l.toArray (Exit.then (fun a' w' => R w' ∧ Go.wpAnyH P .any l.toArray Q R fuel (listed.setIfInBounds i true) a' w') Q) [o1] a w)
    (h2 : WL P l.toArray (Exit.then (fun a' w' => R w' ∧ Go.wpAnyH P .any l.toArray Q R fuel (listed.setIfInBounds j true) a' w') Q) [o2] a w) : HE P l.toArray Q R (fuel + 1) listed a w := by
 refine ⟨Go.wpAnyH_all hr (by simp) fun k hk => ?_⟩
 rcases (by simpa using hk : k = i ∨ k = j) with rfl | rfl
 exact OJ k hi h1
 exact OJ k hj h2
theorem kE (hS : R w) (h : HE P ops Q R fuel listed a w) : Exit.then (fun a' w' => R w' ∧ Go.wpAnyH P .any ops Q R fuel listed a' w') Q .normal a w := ⟨hS, h.out⟩
theorem zZ (hr : Region.ready .any ops listed = []) (h : Q .normal a w) : HE P ops Q R fuel listed a w := ⟨Go.wpAnyH_done hr h _⟩
end
def RpV (F : Fz) (u : Value) (r : Rep) : Prop := ∃ v p q a1 a2 a3 b1 b2 b3, u = .agg #[.int .i64 ((r.s : Nat) : Int), .int .i64 r.code, .int .i64 r.turn, .bool r.found, v, p, q, .bool r.outer.empty, a1, a2, a3, .bool r.inner.empty, b1, b2, b3] ∧
  Bs F v r.value ∧ Prs F p r.pairs ∧ Bs F q r.root ∧ Stps F a1 r.outer.steps ∧ Bs F a2 r.outer.pair.1 ∧ Bs F a3 r.outer.pair.2 ∧ Stps F b1 r.inner.steps ∧ Bs F b2 r.inner.pair.1 ∧ Bs F b3 r.inner.pair.2
theorem RpV.code (F : Fz) (s : Nat) (e : Int) : RpV F (.agg #[.int .i64 ((s : Nat) : Int), .int .i64 e, .int .i64 0, .bool false, .slice none 0 0, .slice none 0 0, .slice none 0 0, .bool false, .slice none 0 0, .slice none 0 0, .slice none 0 0, .bool false, .slice none 0 0, .slice none 0 0, .slice none 0 0]) (cX s e) :=
  ⟨_, _, _, _, _, _, _, _, _, rfl, Bs.nil _, Sl.nil _ _ _, Bs.nil _, Sl.nil _ _ _, Bs.nil _, Bs.nil _, Sl.nil _ _ _, Bs.nil _, Bs.nil _⟩
theorem RpV.turn (F : Fz) (s : Nat) (t : Int) : RpV F (.agg #[.int .i64 ((s : Nat) : Int), .int .i64 0, .int .i64 t, .bool false, .slice none 0 0, .slice none 0 0, .slice none 0 0, .bool false, .slice none 0 0, .slice none 0 0, .slice none 0 0, .bool false, .slice none 0 0, .slice none 0 0, .slice none 0 0]) (mX s t) :=
  ⟨_, _, _, _, _, _, _, _, _, rfl, Bs.nil _, Sl.nil _ _ _, Bs.nil _, Sl.nil _ _ _, Bs.nil _, Bs.nil _, Sl.nil _ _ _, Bs.nil _, Bs.nil _⟩
open Go.RowKit
set_option linter.unusedVariables false
section
variable {P : Program} {Q : Exit → Act → World → Prop} {R : World → Prop} {fuel : Nat} {listed : Array Bool} {a : Act} {w : World} {o : Oper} {l : List Oper} {d : Option Tmp} {t : TypeId} {pos : String} {after : Array Edge} {guard : Option (Nat × Bool)} {x : Operand} {v : Value} {p : Addr} {n : Nat} {vs : Array Value}
theorem lD (i : Nat) (hi : l[i]? = some o) (v : Value) (hS : R w) (hr : ∀ w1, R w1 → (execOp a.eval o).run P w1 = .ok (.value v) w1) (h : HE P l.toArray Q R fuel (listed.setIfInBounds i true) (a.put o.dst v) w) (hc : jO l.toArray listed i = true := by kernel_rfl) (hQ : ∀ c a w, Q (.panic c) (a.put o.dst v) w → Q (.panic c) a w := by exact fun _ _ _ h => h) (hw : Region.wanted o (yielded l.toArray a.tmps) = true := by exact rfl) : HE P l.toArray Q R (fuel + 1) listed a w := xC i hi hc hQ hS hw hr h
theorem tC (i : Nat) (hi : l[i]? = some ⟨d, .move x, t, pos, after, guard⟩) (hS : R w) (h : HE P l.toArray Q R fuel (listed.setIfInBounds i true) (a.put d v) w) (hx : ev a x = some v := by exact rfl) (hc : jO l.toArray listed i = true := by kernel_rfl) (hQ : ∀ c a w, Q (.panic c) (a.put d v) w → Q (.panic c) a w := by exact fun _ _ _ h => h) (hw : Region.wanted ⟨d, .move x, t, pos, after, guard⟩ (yielded l.toArray a.tmps) = true := by exact rfl) : HE P l.toArray Q R (fuel + 1) listed a w := xC i hi hc hQ hS hw (fun w _ => dA hx ▸ gF _) h
theorem mM (i : Nat) (hi : l[i]? = some ⟨d, .assign x, t, pos, after, guard⟩) (hS : R w) (h : HE P l.toArray Q R fuel (listed.setIfInBounds i true) (a.put d v) w) (hx : ev a x = some v := by exact rfl) (hc : jO l.toArray listed i = true := by kernel_rfl) (hQ : ∀ c a w, Q (.panic c) (a.put d v) w → Q (.panic c) a w := by exact fun _ _ _ h => h) (hw : Region.wanted ⟨d, .assign x, t, pos, after, guard⟩ (yielded l.toArray a.tmps) = true := by exact rfl) : HE P l.toArray Q R (fuel + 1) listed a w := xC i hi hc hQ hS hw (fun w _ => dA hx ▸ pQ _) h
theorem QP (i : Nat) (hi : l[i]? = some ⟨d, .nilCheck x, t, pos, after, guard⟩) (hS : R w) (h : HE P l.toArray Q R fuel (listed.setIfInBounds i true) (a.put d (.pointer (some p))) w) (hx : ev a x = some (.pointer (some p)) := by exact rfl) (hc : jO l.toArray listed i = true := by kernel_rfl) (hQ : ∀ c a w, Q (.panic c) (a.put d (.pointer (some p))) w → Q (.panic c) a w := by exact fun _ _ _ h => h) (hw : Region.wanted ⟨d, .nilCheck x, t, pos, after, guard⟩ (yielded l.toArray a.tmps) = true := by exact rfl) : HE P l.toArray Q R (fuel + 1) listed a w := xC i hi hc hQ hS hw (fun w _ => lP (dA hx)) h
theorem rN (i : Nat) (hi : l[i]? = some ⟨d, .extract x n, t, pos, after, guard⟩) (hS : R w) (h : HE P l.toArray Q R fuel (listed.setIfInBounds i true) (a.put d v) w) (hx : ev a x = some (.tuple vs) := by exact rfl) (hv : vs[n]? = some v := by exact rfl) (hc : jO l.toArray listed i = true := by kernel_rfl) (hQ : ∀ c a w, Q (.panic c) (a.put d v) w → Q (.panic c) a w := by exact fun _ _ _ h => h) (hw : Region.wanted ⟨d, .extract x n, t, pos, after, guard⟩ (yielded l.toArray a.tmps) = true := by exact rfl) : HE P l.toArray Q R (fuel + 1) listed a w := xC i hi hc hQ hS hw (fun w _ => cA (dA hx) hv) h
end
open Go.RowKit
set_option maxRecDepth 100000
set_option linter.unusedVariables false
set_option linter.unusedSimpArgs false
theorem LC (w0 : World) (F0 : Fz) (w : World) (F : Fz) (n : Nat) (L : List Blk) (up : Bool) (td : Value) (ts : Nat) (vc vf : Value) (sy : Nat) (pv : Nat → Value) (wv : Nat → Bool) (vw : Value) (cs : List Cm) (fs : List aP) (ws : List Nat) (ar : Option Addr) (cr : Nat) (rs : List Rep) (u : Value) (r : Rep) (S : St w0 F0 w F (⟨n, lZ up td ts vc vf sy pv wv vw (.slice ar rs.length cr), 115⟩ :: L) (oJ w0.heap.size vc cs vf fs vw ws (.slice ar rs.length cr) rs)) (hu : RpV F u r) (hq : rs.length ≤ 100000) :
    Calls Tryz.prog 79 #[.pointer (some ⟨n, 0, none⟩), u] w fun e w' => e = .returned (.tuple #[]) ∧ ∃ F' a c, Le F F' ∧ St w0 F0 w' F' (⟨n, lZ up td ts vc vf sy pv wv vw (.slice a (rs ++ [r]).length c), 115⟩ :: L) (oJ w0.heap.size vc cs vf fs vw ws (.slice a (rs ++ [r]).length c) (rs ++ [r])) := by
 obtain ⟨v, p, q, a1, a2, a3, b1, b2, b3, rfl, h0, h1, h2, h3, h4, h5, h6, h7, h8⟩ := hu
 obtain ⟨b5, a5, a6, a7, a8⟩ := info_parts ZI
 go_enter Tryz.func79, Tryz.ntmps79
 refine sk fun K1 hK1 => ?_
 refine aZ S (v := fun n => .pointer (aA n 0)) rfl (bW (v := (.agg #[(nI r.s), (.int .i64 r.code), (.int .i64 r.turn), (.bool r.found), v, p, q, (.bool r.outer.empty), a1, a2, a3, (.bool r.inner.empty), b1, b2, b3])) rfl) (fun n2 w3 S4 => ?_)
 refine wn hK1 ?_
 obtain ⟨S5, le6, hc7⟩ := St.freezeBlk S4 (i := 0) rfl
 generalize addF F w3 n2 = F8 at *
 refine iG S5 (by kernel_rfl) (fun c5 S9 => ?_)
 refine eD 0 rfl S9.sat ?_
 simp only [pq]
 refine eD 1 rfl S9.sat ?_
 simp only [pq]
 refine ER 2 rfl S9.sat ?_
 simp only [pq]
 refine bM 3 rfl _ S9.sat (fun _ _ => ef (sF _ _)) ?_
 simp only [pq]
 refine bM 5 rfl (.agg #[(nI r.s), (.int .i64 r.code), (.int .i64 r.turn), (.bool r.found), v, p, q, (.bool r.outer.empty), a1, a2, a3, (.bool r.inner.empty), b1, b2, b3]) S9.sat (fun _ b0 => aE rfl (kW (cs := [(nI r.s), (.int .i64 r.code), (.int .i64 r.turn), (.bool r.found), v, p, q, (.bool r.outer.empty), a1, a2, a3, (.bool r.inner.empty), b1, b2, b3]) Tryz.underlying54 rfl (wH) (CJ (c := [(nI r.s), (.int .i64 r.code), (.int .i64 r.turn), (.bool r.found), v, p, q, (.bool r.outer.empty), a1, a2, a3, (.bool r.inner.empty), b1, b2, b3]) (St.start b0).sat hc7))) ?_
 simp only [pq]
 refine WP 4 6 (by kernel_rfl) rfl rfl ?_ ?_
 refine dl (zI _) S9 0 ?_
 refine aH (dB S9.sat ?_)
 refine dQ 6 (by kernel_rfl) rfl ?_
 refine aZ S9 (v := fun n => .slice (aA n 0) 1 1) rfl (bS (ps := #[(0, (.agg #[(nI r.s), (.int .i64 r.code), (.int .i64 r.turn), (.bool r.found), v, p, q, (.bool r.outer.empty), a1, a2, a3, (.bool r.inner.empty), b1, b2, b3]))]) (cells := #[(nI r.s), (.int .i64 r.code), (.int .i64 r.turn), (.bool r.found), v, p, q, (.bool r.outer.empty), a1, a2, a3, (.bool r.inner.empty), b1, b2, b3]) (E := 54) (cG rfl) (fun w => by kernel_rfl)) (fun c6 c7 b4 => ?_)
 refine aH (dB b4.sat ?_)
 refine dQ 7 (by kernel_rfl) rfl ?_
 refine eK (i := 0) (r := 3) (p := r) (cs := [(nI r.s), (.int .i64 r.code), (.int .i64 r.turn), (.bool r.found), v, p, q, (.bool r.outer.empty), a1, a2, a3, (.bool r.inner.empty), b1, b2, b3]) b4 rfl b5 (.agg #[(iI 0), (iI 0), (iI 0), bF, Zn, Zn, Zn, bF, Zn, Zn, Zn, bF, Zn, Zn, Zn]) 264 Tryz.underlying41 a5 a6 a7 a8 rfl (by decide) rfl rfl rfl rfl rfl (RpC.oneCell (p := r) ⟨_, _, _, _, _, _, _, _, _, rfl, h0.mono le6, h1.mono le6, h2.mono le6, h3.mono le6, h4.mono le6, h5.mono le6, h6.mono le6, h7.mono le6, h8.mono le6⟩) (⟨_, _, _, _, _, _, _, _, _, rfl, h0.mono le6, h1.mono le6, h2.mono le6, h3.mono le6, h4.mono le6, h5.mono le6, h6.mono le6, h7.mono le6, h8.mono le6⟩) (Nat.le_refl _) b4.gr.below.size (by unfold maxLen; omega) (by omega) ?_
 intro c8 c9 a0 c1
 simp only [pq]
 have a0 := St.drop a0 (.cons _ (List.Sublist.refl _))
 obtain ⟨d0, b6, rfl, d1, c2⟩ := (a0.own (i := 3) rfl).shape
 unfold maxLen at c2
 refine aH (dB a0.sat ?_)
 refine ER 8 rfl a0.sat ?_
 simp only [pq]
 refine bM 9 rfl _ a0.sat (fun _ _ => ef (sF _ _)) ?_
 simp only [pq]
 refine dQ 10 (by kernel_rfl) rfl ?_
 refine sW 0 a0 (PG) fun d2 b7 => ?_
 refine aH (dB b7.sat ?_)
 refine jP (by kernel_rfl) ?_
 try simp only [xt]
 refine bE (iN rfl) ?_
 exact ⟨rfl, _, _, _, le6, b7⟩
 refine aZ S9 (v := fun n => .slice (aA n 0) 1 1) rfl (bS (ps := #[(0, (.agg #[(nI r.s), (.int .i64 r.code), (.int .i64 r.turn), (.bool r.found), v, p, q, (.bool r.outer.empty), a1, a2, a3, (.bool r.inner.empty), b1, b2, b3]))]) (cells := #[(nI r.s), (.int .i64 r.code), (.int .i64 r.turn), (.bool r.found), v, p, q, (.bool r.outer.empty), a1, a2, a3, (.bool r.inner.empty), b1, b2, b3]) (E := 54) (cG rfl) (fun w => by kernel_rfl)) (fun d3 d4 a9 => ?_)
 refine aH (dB a9.sat ?_)
 refine dQ 4 (by kernel_rfl) rfl ?_
 refine dl (zI _) a9 1 ?_
 refine aH (dB a9.sat ?_)
 refine dQ 7 (by kernel_rfl) rfl ?_
 refine eK (i := 0) (r := 3) (p := r) (cs := [(nI r.s), (.int .i64 r.code), (.int .i64 r.turn), (.bool r.found), v, p, q, (.bool r.outer.empty), a1, a2, a3, (.bool r.inner.empty), b1, b2, b3]) a9 rfl b5 (.agg #[(iI 0), (iI 0), (iI 0), bF, Zn, Zn, Zn, bF, Zn, Zn, Zn, bF, Zn, Zn, Zn]) 264 Tryz.underlying41 a5 a6 a7 a8 rfl (by decide) rfl rfl rfl rfl rfl (RpC.oneCell (p := r) ⟨_, _, _, _, _, _, _, _, _, rfl, h0.mono le6, h1.mono le6, h2.mono le6, h3.mono le6, h4.mono le6, h5.mono le6, h6.mono le6, h7.mono le6, h8.mono le6⟩) (⟨_, _, _, _, _, _, _, _, _, rfl, h0.mono le6, h1.mono le6, h2.mono le6, h3.mono le6, h4.mono le6, h5.mono le6, h6.mono le6, h7.mono le6, h8.mono le6⟩) (Nat.le_refl _) a9.gr.below.size (by unfold maxLen; omega) (by omega) ?_
 intro d5 d6 a4 c3
 simp only [pq]
 have a4 := St.drop a4 (.cons _ (List.Sublist.refl _))
 obtain ⟨d7, b9, rfl, d8, c4⟩ := (a4.own (i := 3) rfl).shape
 unfold maxLen at c4
 refine aH (dB a4.sat ?_)
 refine ER 8 rfl a4.sat ?_
 simp only [pq]
 refine bM 9 rfl _ a4.sat (fun _ _ => ef (sF _ _)) ?_
 simp only [pq]
 refine dQ 10 (by kernel_rfl) rfl ?_
 refine sW 0 a4 (PG) fun d9 c0 => ?_
 refine aH (dB c0.sat ?_)
 refine jP (by kernel_rfl) ?_
 try simp only [xt]
 refine bE (iN rfl) ?_
 exact ⟨rfl, _, _, _, le6, c0⟩
theorem kS (w0 : World) (F0 : Fz) (w : World) (F : Fz) (n : Nat) (g : Eng) (L : List Blk) (u : Value) (r : Rep) (hM : EngM w0 F0 w F n g L) (hu : RpV F u r) (hq : g.replies.length ≤ 100000) :
    Calls Tryz.prog 79 #[.pointer (some ⟨n, 0, none⟩), u] w (xA w0 F0 F n (g.reply r) L) := by
 obtain ⟨ad, cd, ac, cc, af, cf, aw, cw, ar, cr, pv, S, hd, ht⟩ := hM
 refine (LC _ _ _ _ _ _ _ _ _ _ _ _ _ _ _ _ _ _ _ _ _ u r S hu hq).mono ?_
 rintro e w' ⟨he, F', a, c, hl, S'⟩
 exact ⟨he, F', hl, _, _, _, _, _, _, _, _, _, _, _, S', hd.mono hl, dU ht hl⟩
theorem gU (w0 : World) (F0 : Fz) (w : World) (F : Fz) (n : Nat) (g : Eng) (L : List Blk) (s : Nat) (e : Int) (hM : EngM w0 F0 w F n g L) (hq : g.replies.length ≤ 100000) :
    Calls Tryz.prog 76 #[.pointer (some ⟨n, 0, none⟩), .int .i64 ((s : Nat) : Int), .int .i64 e] w (xA w0 F0 F n (g.reply (cX s e)) L) := by
 obtain ⟨ad, cd, ac, cc, af, cf, aw, cw, ar, cr, pv, S, hd, ht⟩ := hM
 go_enter Tryz.func76, Tryz.ntmps76
 refine aB ?_
 refine aC ?_
 refine dr (.agg #[(nI s), (.int .i64 e), (iI 0), bF, Zn, Zn, Zn, bF, Zn, Zn, Zn, bF, Zn, Zn, Zn]) (aJ (eZ rfl rfl) (by kernel_rfl)) ?_
 simp only [pq]
 have hM4 : EngM _ _ _ _ n g _ := ⟨_, _, _, _, _, _, _, _, _, _, _, S, hd, ht⟩
 refine doC rfl (fn2 (qX _ _)) (kS _ _ _ _ _ _ _ _ _ hM4 (RpV.code _ s e) hq) ?_
 rintro _ w5 ⟨rfl, F6, le7, hM8⟩
 refine ⟨_, rfl, ?_⟩
 obtain ⟨ad9, a3, a4, a5, a6, a7, a8, a9, b0, b1, b2, b3, a0, a1⟩ := hM8
 refine aH ?_
 try simp only [xt]
 refine bE (iN rfl) ?_
 have a2 : EngM _ _ _ _ n (g.reply (cX s e)) _ := ⟨_, _, _, _, _, _, _, _, _, _, _, b3, a0, a1⟩
 exact ⟨rfl, _, le7, a2⟩
open Go.RowKit
set_option maxRecDepth 100000
theorem XH (n t : Int) (w : World) (h1 : 0 ≤ t) (h2 : t ≤ n) (h3 : n - t < 6) (_h4 : n ≤ 1000000) :
    Calls Tryz.prog 80 #[.int .i64 n, .int .i64 t] w fun e w' => e = .returned (.bool true) ∧ w' = w := by
 go_enter Tryz.func80, Tryz.ntmps80
 go_wp2
 go_ret
 exact ⟨by simp, rfl⟩
theorem Bl (n t : Int) (w : World) (h1 : t < 0 ∨ n < t ∨ 6 ≤ n - t) (h4 : 0 ≤ n) (h5 : n ≤ 1000000) (h6 : -10 ≤ t) (h7 : t ≤ 2000000) :
    Calls Tryz.prog 80 #[.int .i64 n, .int .i64 t] w fun e w' => e = .returned (.bool false) ∧ w' = w := by
 by_cases a : t < 0
 ·go_enter Tryz.func80, Tryz.ntmps80
  go_wp2
  go_ret
  exact ⟨rfl, rfl⟩
 ·by_cases b : n < t
  ·go_enter Tryz.func80, Tryz.ntmps80
   go_wp2
   go_ret
   exact ⟨rfl, rfl⟩
  ·go_enter Tryz.func80, Tryz.ntmps80
   go_wp2
   go_ret
   exact ⟨by simp; omega, rfl⟩
def many (n t : Int) : Int := min (max (t - max 0 (n - 5)) 0) (min (n + 1) 6)
end Go.Proofs.YtilgpdpooildcaaGreatDoor
