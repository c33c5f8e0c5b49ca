/- Rules, plain laws and walks: TP7 TP8 W1 W2 W3 PW WQ1 -/
import Derived.Test.YtilgpdpooildcaaGreatDoorDB2
import Derived.Test.YtilgpdpooildcaaGreatDoorDB3
import Derived.Test.YtilgpdpooildcaaGreatDoorDB5
import Derived.Test.YtilgpdpooildcaaGreatDoorDB8
import Derived.Test.YtilgpdpooildcaaGreatDoorDB7
import Derived.Test.YtilgpdpooildcaaGreatDoorDB1
namespace Go.Proofs.YtilgpdpooildcaaGreatDoor
set_option maxHeartbeats 8000000
open Go.RowKit
set_option maxRecDepth 100000
set_option linter.unusedVariables false
set_option linter.unusedSimpArgs false
theorem Ca (a b : UInt8) : ((a.toNat : Int) != (b.toNat : Int)) = (a != b) := by
 by_cases h : a = b
 ·subst h; simp
 ·have : (a.toNat : Int) ≠ (b.toNat : Int) := fun e => h (UInt8.toNat_inj.1 (by omega))
  rw [bne_iff_ne.2 this, bne_iff_ne.2 h]
theorem QH {l m : By} {k : Nat} {x y : UInt8} (h : l.take k = m.take k) (hx : l[k]? = some x) (hy : m[k]? = some y) (e : (x != y) = false) : l.take (k + 1) = m.take (k + 1) := by
 rw [fB hx, fB hy, h, bne_eq_false_iff_eq.1 e]
theorem LZ {l m : By} {k : Nat} (h : l.take k = m.take k) (h1 : l.length ≤ k) (h2 : m.length ≤ k) : l = m := by
 rwa [List.take_of_length_le h1, List.take_of_length_le h2] at h
theorem QI {l m : By} {k : Nat} {x y : UInt8} (hx : l[k]? = some x) (hy : m[k]? = some y) (e : (x != y) = true) : l ≠ m := fun h => by
  subst h; rw [hx] at hy; cases hy; simp at e
theorem pE (F : Fz) (w : World) (v u : Value) (l m : By) (hs : Sat w F) (hv : Bs F v l) (hu : Bs F u m) :
    Calls Tryz.prog 97 #[v, u] w (cS w (.bool (l == m))) := by
 obtain ⟨x, y, rfl, q1, q2⟩ := hv.shape
 obtain ⟨z, q, rfl, q3, q4⟩ := hu.shape
 unfold maxLen at q2 q4
 have S := St.start hs
 go_enter Tryz.func97, Tryz.ntmps97
 refine sk fun K1 hK1 => ?_
 refine dy ?_
 refine wn hK1 ?_
 refine aE fun K2 hK2 => ?_
 refine sk fun K3 hK3 => ?_
 refine aC ?_
 by_cases a3 : l.length = m.length
 refine kU ?_
 refine wn hK3 ?_
 refine aF ?_
 refine aH ?_
 refine hK2 _ _ ?_
 refine aE fun K4 hK4 => ?_
 refine sk fun K5 hK5 => ?_
 refine aC ?_
 refine wn hK5 ?_
 refine aM ?_
 refine aW (fun mm aa w7 => ∃ (k : Nat) (u6 : Nat → Value), mm = l.length - k ∧ u6 = eC aa ∧ aa = ⟨([(.slice x l.length y), (.slice z m.length q), undef, undef, (u6 4), (u6 5), (.slice x l.length y), (nI l.length), (.slice z m.length q), (nI m.length), bF, (.slice x l.length y), (nI l.length), (nI k)] ++ (usF u6 14 12 [])).toArray, []⟩ ∧ St w F w7 F [] [] ∧ (k ≤ l.length) ∧ (l.take k = m.take k)) _ ⟨0, _, rfl, rfl, rfl, S, (by omega), rfl⟩ ?_
 rintro m8 a9 c8 ⟨k, u6, rfl, -, hfr, a2, hk, hkk⟩ c9 a4
 simp only [uzF, Nat.reduceAdd] at hfr; subst hfr
 refine sk fun d0 a1 => ?_
 by_cases a5 : k < l.length
 refine fA ?_
 refine wn a1 ?_
 refine aE fun d1 a6 => ?_
 refine aI ?_
 refine aH ?_
 refine a6 _ _ ?_
 refine aE fun d2 a7 => ?_
 refine aM ?_
 refine sk fun d3 a8 => ?_
 refine aC ?_
 refine wn a8 ?_
 refine aE fun d4 b0 => ?_
 obtain ⟨x1, hx1⟩ : ∃ p, l[k]? = some p := ⟨l[k], List.getElem?_eq_getElem a5⟩
 obtain ⟨y1, hy1⟩ : ∃ p, m[k]? = some p := ⟨m[k]'(by omega), List.getElem?_eq_getElem (by omega)⟩
 obtain ⟨c1, c2, b1, c3⟩ := Bs.get hv hx1
 obtain ⟨c4, c5, b2, c6⟩ := Bs.get hu hy1
 refine aQ F 8 [] (by kernel_rfl) (by kernel_rfl) ?_
 simp only [cU]
 iterate 2 refine gm ?_
 refine gv (pP c1 (c2 + k * 1)) (fun _ _ => bY (i := k) (sz := 1) Tryz.underlying25 (bD _) rfl b1 rfl (by omega) rfl) ?_
 simp only [pq]
 refine gv _ (fun _ b3 => aD rfl (aR (iN _) (St.fz (St.tells a2 b3) c3))) ?_
 iterate 2 refine gm ?_
 simp only [pq]
 refine gv (pP c4 (c5 + k * 1)) (fun _ _ => bY (i := k) (sz := 1) Tryz.underlying25 (bD _) rfl b2 rfl (by omega) rfl) ?_
 refine gv _ (fun _ b3 => aD rfl (aR (iN _) (St.fz (St.tells a2 b3) c6))) ?_
 refine bO ?_
 intro d5 b4 b5
 clear b5
 have c0 := St.tells a2 b4
 simp only [cV]
 refine dr (.bool (x1 != y1)) (bP (k := .u8) rfl rfl (Ca x1 y1)) ?_
 simp only [pq]
 refine wlK b0 ?_
 refine wp_cond_split rfl (fun a0 => ?_) (fun a0 => ?_)
 refine sk fun d6 b6 => ?_
 refine dy ?_
 refine wn b6 ?_
 refine aN ?_
 try simp only [xt]
 refine bR (aZ rfl (gD rfl)) ?_
 have hb : (l == m) = false := by have := QI hx1 hy1 a0; simp [this]
 rw [hb]
 exact ⟨rfl, c0.gr.below⟩
 refine aH ?_
 refine a7 _ _ ?_
 refine aB ?_
 refine cN (k + 1) ?_
 refine dx ?_
 simp only [pq]
 refine aG ?_
 exact a4 _ _ _ (by omega) ⟨(k + 1), _, rfl, rfl, rfl, c0, (by omega), (QH hkk hx1 hy1 a0)⟩
 refine eR ?_
 refine wn a1 ?_
 refine aE fun d7 c7 => ?_
 refine aF ?_
 refine cQ ?_
 refine hK4 _ _ ?_
 refine sk fun d8 b7 => ?_
 refine dy ?_
 refine wn b7 ?_
 refine aN ?_
 try simp only [xt]
 refine bR (aZ rfl (gD rfl)) ?_
 have hb : (l == m) = true := by have := LZ hkk (by omega) (by omega); rw [this]; simp
 rw [hb]
 exact ⟨rfl, a2.gr.below⟩
 refine lY ?_
 simp only [pq]
 refine wn hK3 ?_
 refine aI ?_
 refine sk fun d9 b9 => ?_
 refine dy ?_
 refine wn b9 ?_
 refine aN ?_
 try simp only [xt]
 refine bR (aZ rfl (gD rfl)) ?_
 have hb : (l == m) = false := by have : l ≠ m := fun e => a3 (by rw [e]); simp [this]
 rw [hb]
 exact ⟨rfl, S.gr.below⟩
theorem QJ {r : By} {k n : Nat} {x y : UInt8} (h0 : r[0]? = some x) (h1 : r[1]? = some y) (hn : 2 + x.toNat * 256 + y.toNat = n) :
    jB r k = if 4000 < n ∨ r.length < n + 4 then none else if (lW (r.take n)).take 4 ≠ (r.drop n).take 4 then none else if uC ((r.take n).drop 2) ≠ 0 ∨ (sB ((r.take n).drop 2)).turn ≠ k + 1 then none else some (sB ((r.take n).drop 2), n + 4) := by
 have e0 : r.getD 0 0 = x := by rw [List.getD_eq_getElem?_getD, h0]; rfl
 have e1 : r.getD 1 0 = y := by rw [List.getD_eq_getElem?_getD, h1]; rfl
 have hl : ¬ r.length < 2 := by obtain ⟨h, _⟩ := List.getElem?_eq_some_iff.1 h1; omega
 unfold jB
 rw [if_neg hl, e0, e1, hn]
theorem tB {d : By} {out : List Cm} {at_ f : Nat} {r : By} (h : (out ++ (qV f r out.length).1, at_ + (qV f r out.length).2) = gS d) (hc : jB r out.length = none) : gS d = (out, at_) := by
 rw [DJ hc] at h
 simpa using h.symm
theorem TY {d : By} {out : List Cm} {at_ f n : Nat} {m : Cm} (h : (out ++ (qV (f + 1) (d.drop at_) out.length).1, at_ + (qV (f + 1) (d.drop at_) out.length).2) = gS d) (hc : jB (d.drop at_) out.length = some (m, n)) :
    ((out ++ [m]) ++ (qV f (d.drop (at_ + n)) (out ++ [m]).length).1, (at_ + n) + (qV f (d.drop (at_ + n)) (out ++ [m]).length).2) = gS d := by
 rw [DK hc] at h
 simp only [List.drop_drop] at h
 rw [← h, List.length_append, List.append_assoc, Nat.add_assoc]
 rfl
theorem Bs.mid {F : Fz} {a : Option Addr} {m c n i : Nat} {l : By} (h : Bs F (.slice a m c) l) (h1 : i ≤ n) (hn : n ≤ m) : Bs F (.slice (if c = i then a else a.map (·.add (i * 1))) (n - i) (c - i)) ((l.take n).drop i) := dS (Sl.cut2 (by decide) h.sl h1 hn)
theorem BZ (F : Fz) (w : World) (v : Value) (t : Tp) (hs : Sat w F) (hT : Tabs w) (hv : TpV F v t) (ok : TpOk 100000 t) :
    Calls Tryz.prog 84 #[v] w fun e w' => ∃ v a c F', e = .returned (.tuple #[v, .agg #[.slice a (gS t.data).2 c, .int .i64 ((min t.synced (gS t.data).2 : Nat))], .int .i64 0]) ∧ Gr w F w' F' ∧ Own 2 CmC 168 w.heap.size w' F' v (gS t.data).1 ∧ Bs F' (.slice a (gS t.data).2 c) (t.data.take (gS t.data).2) := by
 obtain ⟨x, y, rfl, hv⟩ := hv
 have h1' := ok.len
 have h2' := ok.syn
 obtain ⟨i5, hi5, hz5, hs5, hb5⟩ := info_parts pG
 obtain ⟨i9, e4, e5, e6, e7⟩ := info_parts HB
 have S := St.start hs
 go_enter Tryz.func84, Tryz.ntmps84
 refine sk fun K1 hK1 => ?_
 refine bB S (v := fun n => .pointer (aA n 0)) rfl (bQ (v := (.agg #[(.slice x t.data.length y), (nI t.synced)])) rfl) (fun n2 w3 S4 => ?_)
 refine dy ?_
 refine sA S4 (iP _) fun n5 w6 S7 => ?_
 refine dy ?_
 simp only [pq]
 refine wn hK1 ?_
 refine sk fun K8 hK8 => ?_
 refine dR S7 1 Tryz.underlying108 (bJ) ?_
 refine sZ S7 rfl (fn1 (FC _ _)) (tA _ _ _ t (S7).sat ⟨_, _, rfl, hv⟩ ok) ?_
 intro v9 t7 t8 m8 n7
 simp only [pq]
 obtain ⟨a2, a1, rfl, t9, n8⟩ := (m8.own (i := 0) rfl).shape
 unfold maxLen at n8
 refine dx ?_
 iterate 2 refine de ?_
 simp only [pq]
 refine sA m8 (iP _) fun c9 u0 n9 => ?_
 refine sW 0 n9 (bJ) fun u1 o0 => ?_
 refine dy ?_
 simp only [pq]
 refine wn hK8 ?_
 refine aE fun u2 j0 => ?_
 refine sk fun u3 j1 => ?_
 refine dx ?_
 refine dt ?_
 refine wn j1 ?_
 refine aF ?_
 refine aH ?_
 refine j0 _ _ ?_
 refine aE fun u4 j2 => ?_
 obtain ⟨m9, o1, o2, d7⟩ := St.freeze o0 (i := 0) rfl (Nat.le_refl _)
 have d7 : Bys _ (.slice a2 t.data.length a1) t.data := d7
 have d0 := dS d7
 have hdc : t.data.length ≤ a1 := by obtain ⟨_, _, e, q, _⟩ := d0.shape; simp only [Value.slice.injEq] at e; omega
 refine aB ?_
 refine dy ?_
 simp only [pq]
 refine wlK j2 ?_
 refine sk fun u5 j3 => ?_
 refine dy ?_
 refine wn j3 ?_
 refine aE fun u6 b4 => ?_
 refine aM ?_
 have o3 := St.addNil o1 2 CmC CmC.mono 168 w.heap.size
 refine aW (fun mm aa o4 => ∃ (at_ : Nat) (rv : Value) (out : List Cm) (f_ : Nat) (d8 : Fz) (a0 : Nat → Value), mm = t.data.length - at_ ∧ a0 = eC aa ∧ aa = ⟨#[(.agg #[(.slice x t.data.length y), (nI t.synced)]), (pP n2 0), Zn, (pP n5 0), (iI 0), (pP c9 0), bT, rv, (nI at_), (a0 9), (a0 10), (a0 11), (a0 12), (a0 13), (a0 14), (.tuple #[(.agg #[(.slice a2 t.data.length a1), (nI t.synced)]), bT]), (.agg #[(.slice x t.data.length y), (nI t.synced)]), (.tuple #[(.agg #[(.slice a2 t.data.length a1), (nI t.synced)]), bT]), (.agg #[(.slice a2 t.data.length a1), (nI t.synced)]), bT, bT, bF, undef, (a0 23), (a0 24), (a0 25), (a0 26), (a0 27), (a0 28), (a0 29), (a0 30), (a0 31), (a0 32), (a0 33), (a0 34), (a0 35), (a0 36), (a0 37), (a0 38), (a0 39), (a0 40), (a0 41), (a0 42), (a0 43), (a0 44), (a0 45), (a0 46), (a0 47), (a0 48), (a0 49), (a0 50), (a0 51), (a0 52), (a0 53), (a0 54), (a0 55), (a0 56), (a0 57), (a0 58), (a0 59), (a0 60), (a0 61), (a0 62), (a0 63), (a0 64), (a0 65), (a0 66), (a0 67), (a0 68), (a0 69), (a0 70), (a0 71), (a0 72), (a0 73), (a0 74), (a0 75), (a0 76), (a0 77), (a0 78), (a0 79), (a0 80), (a0 81), (a0 82), (a0 83), (a0 84), (a0 85), (a0 86), (a0 87), (a0 88), (a0 89), (a0 90), undef, undef, undef, undef, undef, undef, undef, undef, undef, undef, undef], []⟩ ∧ St w F o4 d8 [⟨c9, [(.slice a2 t.data.length a1), (nI t.synced)], 108⟩, ⟨n5, [Zn, (iI 0)], 108⟩, ⟨n2, [(.slice x t.data.length y), (nI t.synced)], 108⟩] [cI 2 CmC CmC.mono 168 w.heap.size rv out] ∧ Le m9 d8 ∧ (at_ ≤ t.data.length) ∧ ((out ++ (qV f_ (t.data.drop at_) out.length).1, at_ + (qV f_ (t.data.drop at_) out.length).2) = gS t.data) ∧ (t.data.length - at_ ≤ f_) ∧ (6 * out.length ≤ at_)) _ ⟨0, Zn, [], t.data.length, m9, _, rfl, rfl, rfl, o3, Le.refl _, (Nat.zero_le _), (by unfold gS; simp), (by omega), (by simp)⟩ ?_
 rintro u7 u8 o5 ⟨at_, rv, out, f_, d8, a0, rfl, -, rfl, e8, a9, hat, hinv, hf, hol⟩ u9 j4
 refine aM ?_
 refine sk fun v0 j5 => ?_
 refine df (jF _ _) ?_
 refine dl (bC _) e8 0 ?_
 refine dx ?_
 simp only [pq]
 have hrest : Bs _ (.slice (if a1 = at_ then a2 else a2.map (·.add (at_ * 1))) (t.data.length - at_) (a1 - at_)) (t.data.drop at_) := Bs.rest (d0.mono a9) (by omega)
 refine dr (.slice (if a1 = at_ then a2 else a2.map (·.add (at_ * 1))) (t.data.length - at_) (a1 - at_)) (aV (l := at_) (h := t.data.length) (sz := 1) Tryz.underlying25 rfl (bD _) (.inr ⟨_, rfl, rfl⟩) (.inl ⟨rfl, rfl⟩) (by omega) (by omega) (rfl)) ?_
 refine dy ?_
 refine wn j5 ?_
 refine aE fun v1 j6 => ?_
 refine aE fun v2 e9 => ?_
 obtain ⟨rest, hre⟩ : ∃ r, r = t.data.drop at_ := ⟨_, rfl⟩
 rw [← hre] at hrest
 have hrl : rest.length = (t.data.length - at_) := by rw [hre, List.length_drop]
 obtain ⟨ra, hra⟩ : ∃ a, (if a1 = at_ then a2 else a2.map (·.add (at_ * 1))) = a := ⟨_, rfl⟩
 obtain ⟨rn, hrn⟩ : ∃ a, (t.data.length - at_) = a := ⟨_, rfl⟩
 obtain ⟨rc, hrc⟩ : ∃ a, (a1 - at_) = a := ⟨_, rfl⟩
 rw [hra, hrn, hrc] at hrest
 rw [hra, hrn, hrc]
 have hcc : rn ≤ rc := by omega
 refine aB ?_
 refine dx ?_
 refine dn Tryz.underlying25 ?_
 simp only [pq]
 by_cases o6 : rn < 2
 ·refine fA ?_
  refine wlK e9 ?_
  refine aI ?_
  refine cQ ?_
  refine b4 _ _ ?_
  refine aE fun v3 j7 => ?_
  have hrt := tB hinv (by rw [← hre]; unfold jB; rw [if_pos (by omega)])
  have o7 : Bs _ (.slice a2 at_ at_) (t.data.take at_) := Bs.cut (d0.mono a9) hat
  obtain ⟨o8, j8, f0⟩ := St.freezeBlk e8 (i := 0) rfl
  generalize addF d8 o5 c9 = v4 at *
  refine fX o8 (by kernel_rfl) (fun v5 b5 => ?_)
  refine dL 0 rfl b5.sat ?_
  simp only [pq]
  refine aU 1 rfl _ b5.sat (fun _ _ => ef (jF _ _)) ?_
  simp only [pq]
  refine aU 2 rfl _ b5.sat (fun _ j9 => aD rfl (aR (bC _) (St.fz (St.start j9) (f0 0 _ rfl)))) ?_
  simp only [pq]
  refine dL 3 rfl b5.sat ?_
  simp only [pq]
  refine dL 4 rfl b5.sat ?_
  simp only [pq]
  refine aU 5 rfl (.slice a2 at_ at_) b5.sat (fun _ _ => gV (h := at_) (m := at_) (sz := 1) Tryz.underlying25 rfl (bD _) rfl rfl (by omega) (by omega) rfl) ?_
  simp only [pq]
  refine aU 6 rfl _ b5.sat (fun _ _ => ef (lK _ _)) ?_
  simp only [pq]
  refine aU 7 rfl _ b5.sat (fun _ k0 => aD rfl (aR (bL _) (St.fz (St.start k0) (f0 1 _ rfl)))) ?_
  simp only [pq]
  refine dL 8 rfl b5.sat ?_
  simp only [pq]
  refine fG 11 rfl b5.sat ?_
  simp only [pq]
  refine dD 9 (by kernel_rfl) rfl ?_
  refine dr (nI (min t.synced at_)) (tT (m := ((t.synced : Nat) : Int)) (n := ((at_ : Nat) : Int)) (r := (((min t.synced at_) : Nat) : Int)) rfl rfl (by omega)) ?_
  refine aG (cO b5.sat ?_)
  refine aU 10 rfl (.agg #[(.slice a2 at_ at_), (nI (min t.synced at_))]) b5.sat (fun _ _ => aJ (ps := #[(0, (.slice a2 at_ at_)), (1, (nI (min t.synced at_)))]) (fF rfl rfl) (by kernel_rfl)) ?_
  simp only [pq]
  refine dD 12 (by kernel_rfl) rfl ?_
  refine sW 0 b5 (bJ) fun v6 f1 => ?_
  refine aG (cO f1.sat ?_)
  refine fG 13 rfl f1.sat ?_
  simp only [pq]
  refine iH (by kernel_rfl) ?_
  refine j7 _ _ ?_
  refine aN ?_
  try simp only [xt]
  refine bR (sM rfl (gD rfl) ⟨_, rfl, lR f1 0 Tryz.underlying108 (bJ)⟩ (gD rfl)) ?_
  ·refine ⟨_, _, _, _, by rw [hrt]; try rfl, f1.gr, by rw [hrt]; exact f1.own (i := 0) rfl, by rw [hrt]; exact (o7.mono j8)⟩
 ·refine eR ?_
  refine wlK e9 ?_
  refine aF ?_
  refine aH ?_
  refine j6 _ _ ?_
  refine aE fun v7 k1 => ?_
  obtain ⟨b0, hb0⟩ : ∃ p, rest[0]? = some p := ⟨rest[0], List.getElem?_eq_getElem (by omega)⟩
  obtain ⟨b1, hb1⟩ : ∃ p, rest[1]? = some p := ⟨rest[1], List.getElem?_eq_getElem (by omega)⟩
  have hb0l := UInt8.toNat_lt b0
  have hb1l := UInt8.toNat_lt b1
  obtain ⟨n0, n1, d9, o9⟩ := Bs.get hrest hb0
  obtain ⟨v8, w0, k2, n3⟩ := Bs.get hrest hb1
  have hq_ := k2.symm.trans d9; injection hq_ with hq_; injection hq_ with hq1_ hq2_; rw [hq1_, hq2_] at n3
  refine aQ d8 10 [] (by kernel_rfl) (by kernel_rfl) ?_
  simp only [cU]
  refine gm ?_
  refine gv (pP n0 (n1 + 0 * 1)) (fun _ _ => bY (i := 0) (sz := 1) Tryz.underlying25 (bD _) rfl d9 rfl (by omega) rfl) ?_
  simp only [pq]
  refine gv _ (fun _ k3 => aD rfl (aR (iN _) (St.fz (St.tells e8 k3) o9))) ?_
  refine gv (nI b0.toNat) (fun _ _ => bA (v := (bv b0)) rfl (hY b0 _)) ?_
  refine gv (nI (b0.toNat * 256)) (fun _ _ => FU (m := b0.toNat) (n := 8) (r := b0.toNat * 256) rfl rfl (by decide) rfl (by omega)) ?_
  simp only [pq]
  refine gv (nI (2 + (b0.toNat * 256))) (fun _ _ => fO (m := (2 : Int)) (n := (((b0.toNat * 256) : Nat) : Int)) (r := (((2 + (b0.toNat * 256)) : Nat) : Int)) rfl rfl (by omega) (by omega) (by omega)) ?_
  refine gm ?_
  refine gv (pP n0 (n1 + 1 * 1)) (fun _ _ => bY (i := 1) (sz := 1) Tryz.underlying25 (bD _) rfl d9 rfl (by omega) rfl) ?_
  simp only [pq]
  refine gv _ (fun _ k3 => aD rfl (aR (iN _) (St.fz (St.tells e8 k3) n3))) ?_
  refine gv (nI b1.toNat) (fun _ _ => bA (v := (bv b1)) rfl (hY b1 _)) ?_
  refine bO ?_
  intro n4 k4 k5
  clear k5
  have f2 := St.tells e8 k4
  simp only [cV]
  refine cN ((((2 + (b0.toNat * 256)) + b1.toNat) : Nat) : Int) ?_
  refine dy ?_
  simp only [pq]
  refine wlK k1 ?_
  refine aE fun w1 k6 => ?_
  refine aE fun w2 e0 => ?_
  obtain ⟨n, hN⟩ : ∃ n, ((2 + (b0.toNat * 256)) + b1.toNat) = n := ⟨_, rfl⟩
  rw [hN]
  have hcn := QJ (k := out.length) hb0 hb1 (n := n) (by omega)
  refine aB ?_
  refine dx ?_
  simp only [pq]
  by_cases p0 : 4000 < n
  ·refine pV ?_
   refine dx ?_
   refine nO ?_
   simp only [pq]
   iterate 3 refine nO ?_
   simp only [pq]
   refine nO ?_
   refine dp ?_
   refine wlK e0 ?_
   refine aI ?_
   refine cQ ?_
   refine b4 _ _ ?_
   refine aE fun w4 k7 => ?_
   have hrt := tB hinv (by rw [← hre, hcn, if_pos (by omega)])
   have p1 : Bs _ (.slice a2 at_ at_) (t.data.take at_) := Bs.cut (d0.mono a9) hat
   obtain ⟨p2, k8, d1⟩ := St.freezeBlk f2 (i := 0) rfl
   generalize addF d8 n4 c9 = p3 at *
   refine fX p2 (by kernel_rfl) (fun p4 a3 => ?_)
   refine dL 0 rfl a3.sat ?_
   simp only [pq]
   refine aU 1 rfl _ a3.sat (fun _ _ => ef (jF _ _)) ?_
   simp only [pq]
   refine aU 2 rfl _ a3.sat (fun _ f3 => aD rfl (aR (bC _) (St.fz (St.start f3) (d1 0 _ rfl)))) ?_
   simp only [pq]
   refine dL 3 rfl a3.sat ?_
   simp only [pq]
   refine dL 4 rfl a3.sat ?_
   simp only [pq]
   refine aU 5 rfl (.slice a2 at_ at_) a3.sat (fun _ _ => gV (h := at_) (m := at_) (sz := 1) Tryz.underlying25 rfl (bD _) rfl rfl (by omega) (by omega) rfl) ?_
   simp only [pq]
   refine aU 6 rfl _ a3.sat (fun _ _ => ef (lK _ _)) ?_
   simp only [pq]
   refine aU 7 rfl _ a3.sat (fun _ f4 => aD rfl (aR (bL _) (St.fz (St.start f4) (d1 1 _ rfl)))) ?_
   simp only [pq]
   refine dL 8 rfl a3.sat ?_
   simp only [pq]
   refine fG 11 rfl a3.sat ?_
   simp only [pq]
   refine dD 9 (by kernel_rfl) rfl ?_
   refine dr (nI (min t.synced at_)) (tT (m := ((t.synced : Nat) : Int)) (n := ((at_ : Nat) : Int)) (r := (((min t.synced at_) : Nat) : Int)) rfl rfl (by omega)) ?_
   refine aG (cO a3.sat ?_)
   refine aU 10 rfl (.agg #[(.slice a2 at_ at_), (nI (min t.synced at_))]) a3.sat (fun _ _ => aJ (ps := #[(0, (.slice a2 at_ at_)), (1, (nI (min t.synced at_)))]) (fF rfl rfl) (by kernel_rfl)) ?_
   simp only [pq]
   refine dD 12 (by kernel_rfl) rfl ?_
   refine sW 0 a3 (bJ) fun p5 b7 => ?_
   refine aG (cO b7.sat ?_)
   refine fG 13 rfl b7.sat ?_
   simp only [pq]
   refine iH (by kernel_rfl) ?_
   refine k7 _ _ ?_
   refine aN ?_
   try simp only [xt]
   refine bR (sM rfl (gD rfl) ⟨_, rfl, lR b7 0 Tryz.underlying108 (bJ)⟩ (gD rfl)) ?_
   ·refine ⟨_, _, _, _, by rw [hrt]; try rfl, b7.gr, by rw [hrt]; exact b7.own (i := 0) rfl, by rw [hrt]; exact (p1.mono k8)⟩
  ·refine kT ?_
   iterate 2 refine dx ?_
   simp only [pq]
   refine dn Tryz.underlying25 ?_
   refine dx ?_
   refine cN (n + 4) ?_
   simp only [pq]
   by_cases p6 : rn < (n + 4)
   ·refine fA ?_
    refine dp ?_
    refine wlK e0 ?_
    refine aI ?_
    refine cQ ?_
    refine b4 _ _ ?_
    refine aE fun p7 f5 => ?_
    have hrt := tB hinv (by rw [← hre, hcn, if_pos (by omega)])
    have k9 : Bs _ (.slice a2 at_ at_) (t.data.take at_) := Bs.cut (d0.mono a9) hat
    obtain ⟨l0, f6, d2⟩ := St.freezeBlk f2 (i := 0) rfl
    generalize addF d8 n4 c9 = p8 at *
    refine fX l0 (by kernel_rfl) (fun p9 a4 => ?_)
    refine dL 0 rfl a4.sat ?_
    simp only [pq]
    refine aU 1 rfl _ a4.sat (fun _ _ => ef (jF _ _)) ?_
    simp only [pq]
    refine aU 2 rfl _ a4.sat (fun _ f7 => aD rfl (aR (bC _) (St.fz (St.start f7) (d2 0 _ rfl)))) ?_
    simp only [pq]
    refine dL 3 rfl a4.sat ?_
    simp only [pq]
    refine dL 4 rfl a4.sat ?_
    simp only [pq]
    refine aU 5 rfl (.slice a2 at_ at_) a4.sat (fun _ _ => gV (h := at_) (m := at_) (sz := 1) Tryz.underlying25 rfl (bD _) rfl rfl (by omega) (by omega) rfl) ?_
    simp only [pq]
    refine aU 6 rfl _ a4.sat (fun _ _ => ef (lK _ _)) ?_
    simp only [pq]
    refine aU 7 rfl _ a4.sat (fun _ f8 => aD rfl (aR (bL _) (St.fz (St.start f8) (d2 1 _ rfl)))) ?_
    simp only [pq]
    refine dL 8 rfl a4.sat ?_
    simp only [pq]
    refine fG 11 rfl a4.sat ?_
    simp only [pq]
    refine dD 9 (by kernel_rfl) rfl ?_
    refine dr (nI (min t.synced at_)) (tT (m := ((t.synced : Nat) : Int)) (n := ((at_ : Nat) : Int)) (r := (((min t.synced at_) : Nat) : Int)) rfl rfl (by omega)) ?_
    refine aG (cO a4.sat ?_)
    refine aU 10 rfl (.agg #[(.slice a2 at_ at_), (nI (min t.synced at_))]) a4.sat (fun _ _ => aJ (ps := #[(0, (.slice a2 at_ at_)), (1, (nI (min t.synced at_)))]) (fF rfl rfl) (by kernel_rfl)) ?_
    simp only [pq]
    refine dD 12 (by kernel_rfl) rfl ?_
    refine sW 0 a4 (bJ) fun q0 b9 => ?_
    refine aG (cO b9.sat ?_)
    refine fG 13 rfl b9.sat ?_
    simp only [pq]
    refine iH (by kernel_rfl) ?_
    refine f5 _ _ ?_
    refine aN ?_
    try simp only [xt]
    refine bR (sM rfl (gD rfl) ⟨_, rfl, lR b9 0 Tryz.underlying108 (bJ)⟩ (gD rfl)) ?_
    ·refine ⟨_, _, _, _, by rw [hrt]; try rfl, b9.gr, by rw [hrt]; exact b9.own (i := 0) rfl, by rw [hrt]; exact (k9.mono f6)⟩
   ·refine eR ?_
    refine dp ?_
    refine wlK e0 ?_
    refine aF ?_
    refine aH ?_
    refine k6 _ _ ?_
    refine aE fun q1 f9 => ?_
    rw [if_neg (by omega)] at hcn
    refine aB ?_
    iterate 2 refine dx ?_
    simp only [pq]
    have l1 : Bs _ (.slice ra n rc) (rest.take n) := dS (Sl.takeN (Bs.sl hrest) (by omega))
    refine dr (.slice ra n rc) (aV (l := 0) (h := n) (sz := 1) Tryz.underlying25 rfl (bD _) (.inl ⟨rfl, rfl⟩) (.inr ⟨_, rfl, rfl⟩) (by omega) (by omega) (eT)) ?_
    refine aY f2 rfl (fn1 (SI _ _)) (TT _ _ _ (rest.take n) (f2).sat (hT.at f2.gr.below) l1 (by rw [List.length_take]; omega)) ?_
    intro q2 q3 e1 g0 a8 l2
    obtain ⟨q4, rfl, c0⟩ := l2
    obtain ⟨b3, b2, rfl, _⟩ := c0.shape
    have c0 : Bs _ (.slice b3 (lW (rest.take n)).length b2) (lW (rest.take n)) := c0
    refine dx ?_
    iterate 2 refine de ?_
    simp only [pq]
    iterate 2 refine dy ?_
    refine wlK f9 ?_
    refine aE fun q5 g1 => ?_
    refine aE fun q6 d3 => ?_
    have hsl := rD (rest.take n)
    have hsc : (lW (rest.take n)).length ≤ b2 := by obtain ⟨_, _, e, q, _⟩ := c0.shape; injection e with _ _ e; omega
    have g2 : Bs _ (.slice b3 4 b2) ((lW (rest.take n)).take 4) := dS (Sl.takeN (Bs.sl c0) (by omega))
    have e2 : Bs _ (.slice (if rc = n then ra else ra.map (·.add (n * 1))) ((n + 4) - n) (rc - n)) ((rest.take (n + 4)).drop n) := Bs.mid (hrest.mono a8) (by omega) (by omega)
    have hdt : (rest.take (n + 4)).drop n = (rest.drop n).take 4 := by rw [List.drop_take, Nat.add_sub_cancel_left]
    rw [hdt] at e2
    by_cases hq : (lW (rest.take n)).take 4 = (rest.drop n).take 4
    ·rw [if_neg (by simpa using hq)] at hcn
     refine aQ e1 7 [] (by kernel_rfl) (by kernel_rfl) ?_
     simp only [cU]
     refine gm ?_
     simp only [pq]
     refine gv (.slice b3 4 b2) (fun _ _ => aV (l := 0) (h := 4) (sz := 1) Tryz.underlying25 rfl (bD _) (.inl ⟨rfl, rfl⟩) (.inr ⟨_, rfl, rfl⟩) (by omega) (by omega) (eT)) ?_
     iterate 2 refine gm ?_
     simp only [pq]
     refine gm ?_
     refine gv (nI (n + 4)) (fun _ _ => fO (m := ((n : Nat) : Int)) (n := (4 : Int)) (r := (((n + 4) : Nat) : Int)) rfl rfl (by omega) (by omega) (by omega)) ?_
     refine gv (.slice (if rc = n then ra else ra.map (·.add (n * 1))) ((n + 4) - n) (rc - n)) (fun _ _ => aV (l := n) (h := (n + 4)) (sz := 1) Tryz.underlying25 rfl (bD _) (.inr ⟨_, rfl, rfl⟩) (.inr ⟨_, rfl, rfl⟩) (by omega) (by omega) (rfl)) ?_
     simp only [pq]
     refine bO ?_
     intro q7 g3 g4
     clear g4
     have g5 := St.tells g0 g3
     simp only [cV]
     refine aK (v := bT) g5 rfl (fn2 (SJ _ _)) (eS (pE _ _ _ _ ((lW (rest.take n)).take 4) ((rest.drop n).take 4) (g5).sat g2 e2) (beq_iff_eq.2 hq)) (fun q8 g6 => ?_)
     simp only [pq]
     refine dt ?_
     refine wlK d3 ?_
     refine aF ?_
     refine aH ?_
     refine g1 _ _ ?_
     refine aE fun q9 g7 => ?_
     obtain ⟨e, he⟩ : ∃ e, uC ((rest.take n).drop 2) = e := ⟨_, rfl⟩
     obtain ⟨mm, hmm⟩ : ∃ m, sB ((rest.take n).drop 2) = m := ⟨_, rfl⟩
     rw [he, hmm] at hcn
     refine aB ?_
     iterate 2 refine dx ?_
     simp only [pq]
     have l3 : Bs _ (.slice (if rc = 2 then ra else ra.map (·.add (2 * 1))) (n - 2) (rc - 2)) ((rest.take n).drop 2) := Bs.mid (hrest.mono a8) (by omega) (by omega)
     refine dr (.slice (if rc = 2 then ra else ra.map (·.add (2 * 1))) (n - 2) (rc - 2)) (aV (l := 2) (h := n) (sz := 1) Tryz.underlying25 rfl (bD _) (.inr ⟨_, rfl, rfl⟩) (.inr ⟨_, rfl, rfl⟩) (by omega) (by omega) (rfl)) ?_
     refine aY g6 rfl (fn1 (An _ _)) (BY _ _ _ ((rest.take n).drop 2) (g6).sat l3 (by rw [List.length_drop, List.length_take]; omega) he hmm) ?_
     intro r0 r1 e3 l4 c1 l5
     obtain ⟨_, rfl, c2, c3, rfl, g8⟩ := l5
     refine dx ?_
     iterate 2 refine de ?_
     simp only [pq]
     refine sA l4 (rK _) fun r2 r3 l6 => ?_
     refine sW 0 l6 (eE) fun g9 b6 => ?_
     refine dy ?_
     simp only [pq]
     refine wlK g7 ?_
     refine aE fun r4 h0 => ?_
     refine aE fun r5 c4 => ?_
     obtain ⟨r6, l7, rfl, r7, l8⟩ := (b6.own (i := 0) rfl).shape
     unfold maxLen at l8
     refine aB ?_
     refine dx ?_
     simp only [pq]
     by_cases r8 : e = (0 : Int)
     ·refine kU ?_
      refine dx ?_
      refine df (HC _ _) ?_
      simp only [pq]
      refine dl (bL _) b6 0 ?_
      refine dx ?_
      refine dn Tryz.underlying109 ?_
      simp only [pq]
      refine cN (out.length + 1) ?_
      simp only [pq]
      by_cases r9 : mm.turn = (out.length + 1)
      ·refine kU ?_
       refine dp ?_
       refine wlK c4 ?_
       refine aF ?_
       refine aH ?_
       refine h0 _ _ ?_
       refine aE fun s0 h1 => ?_
       have hch : jB (t.data.drop at_) out.length = some (mm, n + 4) := by rw [← hre, hcn, if_neg (by omega)]
       obtain ⟨g, rfl⟩ : ∃ g, f_ = g + 1 := ⟨f_ - 1, by omega⟩
       refine aB ?_
       refine dx ?_
       refine dR b6 0 Tryz.underlying168 (eE) ?_
       simp only [pq]
       refine bB b6 (v := fun n => .slice (aA n 0) 1 1) rfl (cX (ps := #[(0, (.agg #[(nI mm.turn), (.slice c2 mm.writes.length c3)]))]) (cells := #[(nI mm.turn), (.slice c2 mm.writes.length c3)]) (E := 168) (dH rfl) (fun w => by kernel_rfl)) (fun s1 s2 h2 => ?_)
       refine fJ (i := 0) (r := 0) (p := mm) (cs := [(nI mm.turn), (.slice c2 mm.writes.length c3)]) h2 rfl i9 (.agg #[(iI 0), Zn]) 32 Tryz.underlying109 e4 e5 e6 e7 rfl (by decide) rfl rfl rfl rfl rfl (CmC.oneCell (p := mm) ⟨_, _, rfl, rfl, g8⟩) (⟨_, _, rfl, rfl, g8⟩) (Nat.le_refl _) h2.gr.below.size (by unfold maxLen; omega) (by omega) ?_
       intro l9 s3 c5 n6
       simp only [pq]
       have c5 := St.drop c5 (.cons _ (List.Sublist.refl _))
       refine dy ?_
       refine wlK h1 ?_
       refine aB ?_
       iterate 2 refine dx ?_
       refine cN (n + 4) ?_
       simp only [pq]
       refine cN (at_ + (n + 4)) ?_
       refine dy ?_
       refine aG ?_
       have c5 := St.drop c5 (.cons _ (List.Sublist.refl _))
       exact j4 _ _ _ (by omega) ⟨(at_ + (n + 4)), l9, (out ++ [mm]), g, e3, _, rfl, rfl, rfl, c5, ((a9.trans a8).trans c1), (by omega), (TY hinv hch), (by omega), (by rw [List.length_append]; simp only [List.length_cons, List.length_nil]; omega)⟩
      ·refine lY ?_
       refine dp ?_
       simp only [pq]
       refine wlK c4 ?_
       refine aI ?_
       refine cQ ?_
       refine b4 _ _ ?_
       refine aE fun s4 h3 => ?_
       have hrt := tB hinv (by rw [← hre, hcn, if_pos (by omega)])
       have m0 : Bs _ (.slice a2 at_ at_) (t.data.take at_) := Bs.cut (d0.mono ((a9.trans a8).trans c1)) hat
       obtain ⟨m1, h4, d4⟩ := St.freezeBlk b6 (i := 1) rfl
       generalize addF e3 g9 c9 = s5 at *
       refine fX m1 (by kernel_rfl) (fun s6 a5 => ?_)
       refine dL 0 rfl a5.sat ?_
       simp only [pq]
       refine aU 1 rfl _ a5.sat (fun _ _ => ef (jF _ _)) ?_
       simp only [pq]
       refine aU 2 rfl _ a5.sat (fun _ h5 => aD rfl (aR (bC _) (St.fz (St.start h5) (d4 0 _ rfl)))) ?_
       simp only [pq]
       refine dL 3 rfl a5.sat ?_
       simp only [pq]
       refine dL 4 rfl a5.sat ?_
       simp only [pq]
       refine aU 5 rfl (.slice a2 at_ at_) a5.sat (fun _ _ => gV (h := at_) (m := at_) (sz := 1) Tryz.underlying25 rfl (bD _) rfl rfl (by omega) (by omega) rfl) ?_
       simp only [pq]
       refine aU 6 rfl _ a5.sat (fun _ _ => ef (lK _ _)) ?_
       simp only [pq]
       refine aU 7 rfl _ a5.sat (fun _ h6 => aD rfl (aR (bL _) (St.fz (St.start h6) (d4 1 _ rfl)))) ?_
       simp only [pq]
       refine dL 8 rfl a5.sat ?_
       simp only [pq]
       refine fG 11 rfl a5.sat ?_
       simp only [pq]
       refine dD 9 (by kernel_rfl) rfl ?_
       refine dr (nI (min t.synced at_)) (tT (m := ((t.synced : Nat) : Int)) (n := ((at_ : Nat) : Int)) (r := (((min t.synced at_) : Nat) : Int)) rfl rfl (by omega)) ?_
       refine aG (cO a5.sat ?_)
       refine aU 10 rfl (.agg #[(.slice a2 at_ at_), (nI (min t.synced at_))]) a5.sat (fun _ _ => aJ (ps := #[(0, (.slice a2 at_ at_)), (1, (nI (min t.synced at_)))]) (fF rfl rfl) (by kernel_rfl)) ?_
       simp only [pq]
       refine dD 12 (by kernel_rfl) rfl ?_
       refine sW 1 a5 (bJ) fun s7 c6 => ?_
       refine aG (cO c6.sat ?_)
       refine fG 13 rfl c6.sat ?_
       simp only [pq]
       refine iH (by kernel_rfl) ?_
       refine h3 _ _ ?_
       refine aN ?_
       try simp only [xt]
       refine bR (sM rfl (gD rfl) ⟨_, rfl, lR c6 1 Tryz.underlying108 (bJ)⟩ (gD rfl)) ?_
       ·refine ⟨_, _, _, _, by rw [hrt]; try rfl, c6.gr, by rw [hrt]; exact c6.own (i := 0) rfl, by rw [hrt]; exact (m0.mono h4)⟩
     ·refine lY ?_
      refine dx ?_
      refine nO ?_
      simp only [pq]
      iterate 3 refine nO ?_
      simp only [pq]
      iterate 2 refine nO ?_
      refine dp ?_
      simp only [pq]
      refine wlK c4 ?_
      refine aI ?_
      refine cQ ?_
      refine b4 _ _ ?_
      refine aE fun s8 h7 => ?_
      have hrt := tB hinv (by rw [← hre, hcn, if_pos (by omega)])
      have m2 : Bs _ (.slice a2 at_ at_) (t.data.take at_) := Bs.cut (d0.mono ((a9.trans a8).trans c1)) hat
      obtain ⟨m3, h8, d5⟩ := St.freezeBlk b6 (i := 1) rfl
      generalize addF e3 g9 c9 = s9 at *
      refine fX m3 (by kernel_rfl) (fun t0 a6 => ?_)
      refine dL 0 rfl a6.sat ?_
      simp only [pq]
      refine aU 1 rfl _ a6.sat (fun _ _ => ef (jF _ _)) ?_
      simp only [pq]
      refine aU 2 rfl _ a6.sat (fun _ h9 => aD rfl (aR (bC _) (St.fz (St.start h9) (d5 0 _ rfl)))) ?_
      simp only [pq]
      refine dL 3 rfl a6.sat ?_
      simp only [pq]
      refine dL 4 rfl a6.sat ?_
      simp only [pq]
      refine aU 5 rfl (.slice a2 at_ at_) a6.sat (fun _ _ => gV (h := at_) (m := at_) (sz := 1) Tryz.underlying25 rfl (bD _) rfl rfl (by omega) (by omega) rfl) ?_
      simp only [pq]
      refine aU 6 rfl _ a6.sat (fun _ _ => ef (lK _ _)) ?_
      simp only [pq]
      refine aU 7 rfl _ a6.sat (fun _ i0 => aD rfl (aR (bL _) (St.fz (St.start i0) (d5 1 _ rfl)))) ?_
      simp only [pq]
      refine dL 8 rfl a6.sat ?_
      simp only [pq]
      refine fG 11 rfl a6.sat ?_
      simp only [pq]
      refine dD 9 (by kernel_rfl) rfl ?_
      refine dr (nI (min t.synced at_)) (tT (m := ((t.synced : Nat) : Int)) (n := ((at_ : Nat) : Int)) (r := (((min t.synced at_) : Nat) : Int)) rfl rfl (by omega)) ?_
      refine aG (cO a6.sat ?_)
      refine aU 10 rfl (.agg #[(.slice a2 at_ at_), (nI (min t.synced at_))]) a6.sat (fun _ _ => aJ (ps := #[(0, (.slice a2 at_ at_)), (1, (nI (min t.synced at_)))]) (fF rfl rfl) (by kernel_rfl)) ?_
      simp only [pq]
      refine dD 12 (by kernel_rfl) rfl ?_
      refine sW 1 a6 (bJ) fun t1 c7 => ?_
      refine aG (cO c7.sat ?_)
      refine fG 13 rfl c7.sat ?_
      simp only [pq]
      refine iH (by kernel_rfl) ?_
      refine h7 _ _ ?_
      refine aN ?_
      try simp only [xt]
      refine bR (sM rfl (gD rfl) ⟨_, rfl, lR c7 1 Tryz.underlying108 (bJ)⟩ (gD rfl)) ?_
      ·refine ⟨_, _, _, _, by rw [hrt]; try rfl, c7.gr, by rw [hrt]; exact c7.own (i := 0) rfl, by rw [hrt]; exact (m2.mono h8)⟩
    ·rw [if_pos hq] at hcn
     refine aQ e1 7 [] (by kernel_rfl) (by kernel_rfl) ?_
     simp only [cU]
     refine gm ?_
     refine gv (.slice b3 4 b2) (fun _ _ => aV (l := 0) (h := 4) (sz := 1) Tryz.underlying25 rfl (bD _) (.inl ⟨rfl, rfl⟩) (.inr ⟨_, rfl, rfl⟩) (by omega) (by omega) (eT)) ?_
     refine gm ?_
     simp only [pq]
     iterate 2 refine gm ?_
     refine gv (nI (n + 4)) (fun _ _ => fO (m := ((n : Nat) : Int)) (n := (4 : Int)) (r := (((n + 4) : Nat) : Int)) rfl rfl (by omega) (by omega) (by omega)) ?_
     simp only [pq]
     refine gv (.slice (if rc = n then ra else ra.map (·.add (n * 1))) ((n + 4) - n) (rc - n)) (fun _ _ => aV (l := n) (h := (n + 4)) (sz := 1) Tryz.underlying25 rfl (bD _) (.inr ⟨_, rfl, rfl⟩) (.inr ⟨_, rfl, rfl⟩) (by omega) (by omega) (rfl)) ?_
     refine bO ?_
     intro t2 i1 i2
     clear i2
     have i3 := St.tells g0 i1
     simp only [cV]
     refine aK (v := bF) i3 rfl (fn2 (SJ _ _)) (eS (pE _ _ _ _ ((lW (rest.take n)).take 4) ((rest.drop n).take 4) (i3).sat g2 e2) (beq_eq_false_iff_ne.2 hq)) (fun m4 m5 => ?_)
     simp only [pq]
     refine dt ?_
     refine wlK d3 ?_
     refine aI ?_
     refine cQ ?_
     refine b4 _ _ ?_
     refine aE fun t3 i4 => ?_
     have hrt := tB hinv (by rw [← hre]; exact hcn)
     have m6 : Bs _ (.slice a2 at_ at_) (t.data.take at_) := Bs.cut (d0.mono (a9.trans a8)) hat
     obtain ⟨m7, i6, d6⟩ := St.freezeBlk m5 (i := 0) rfl
     generalize addF e1 m4 c9 = t4 at *
     refine fX m7 (by kernel_rfl) (fun t5 a7 => ?_)
     refine dL 0 rfl a7.sat ?_
     simp only [pq]
     refine aU 1 rfl _ a7.sat (fun _ _ => ef (jF _ _)) ?_
     simp only [pq]
     refine aU 2 rfl _ a7.sat (fun _ i7 => aD rfl (aR (bC _) (St.fz (St.start i7) (d6 0 _ rfl)))) ?_
     simp only [pq]
     refine dL 3 rfl a7.sat ?_
     simp only [pq]
     refine dL 4 rfl a7.sat ?_
     simp only [pq]
     refine aU 5 rfl (.slice a2 at_ at_) a7.sat (fun _ _ => gV (h := at_) (m := at_) (sz := 1) Tryz.underlying25 rfl (bD _) rfl rfl (by omega) (by omega) rfl) ?_
     simp only [pq]
     refine aU 6 rfl _ a7.sat (fun _ _ => ef (lK _ _)) ?_
     simp only [pq]
     refine aU 7 rfl _ a7.sat (fun _ i8 => aD rfl (aR (bL _) (St.fz (St.start i8) (d6 1 _ rfl)))) ?_
     simp only [pq]
     refine dL 8 rfl a7.sat ?_
     simp only [pq]
     refine fG 11 rfl a7.sat ?_
     simp only [pq]
     refine dD 9 (by kernel_rfl) rfl ?_
     refine dr (nI (min t.synced at_)) (tT (m := ((t.synced : Nat) : Int)) (n := ((at_ : Nat) : Int)) (r := (((min t.synced at_) : Nat) : Int)) rfl rfl (by omega)) ?_
     refine aG (cO a7.sat ?_)
     refine aU 10 rfl (.agg #[(.slice a2 at_ at_), (nI (min t.synced at_))]) a7.sat (fun _ _ => aJ (ps := #[(0, (.slice a2 at_ at_)), (1, (nI (min t.synced at_)))]) (fF rfl rfl) (by kernel_rfl)) ?_
     simp only [pq]
     refine dD 12 (by kernel_rfl) rfl ?_
     refine sW 0 a7 (bJ) fun t6 c8 => ?_
     refine aG (cO c8.sat ?_)
     refine fG 13 rfl c8.sat ?_
     simp only [pq]
     refine iH (by kernel_rfl) ?_
     refine i4 _ _ ?_
     refine aN ?_
     try simp only [xt]
     refine bR (sM rfl (gD rfl) ⟨_, rfl, lR c8 0 Tryz.underlying108 (bJ)⟩ (gD rfl)) ?_
     ·refine ⟨_, _, _, _, by rw [hrt]; try rfl, c8.gr, by rw [hrt]; exact c8.own (i := 0) rfl, by rw [hrt]; exact (m6.mono i6)⟩
theorem TpV.dropT {w : World} {F : Fz} {n : Nat} {T : TypeId} (hs : Sat w F) (hb : w.heap[n]? = some (.cells [Value.slice none 0 0, Value.int .i64 0].toArray T (0, 0))) (hc : ∀ u ∈ [Value.slice none 0 0, Value.int .i64 0], ∀ x, u ≠ bv x) {u : Value} {t : Tp} (h : TpV F u t) : TpV (dropF F n) u t := by
 obtain ⟨x0, y0, rfl, h0⟩ := h
 exact ⟨x0, y0, rfl, h0.dropF hs hb hc⟩
theorem TpV.zero (F : Fz) : TpV F (.agg #[.slice none 0 0, .int .i64 0]) ⟨[], 0⟩ := ⟨none, 0, rfl, Bs.nil F⟩
def MA : List Int := [0, 0, 3, 7, 11, 3, 0, 0, 3]
def Has (w : World) : Prop := ∀ i (hi : i < MA.length), w.cell? ⟨0, i, none⟩ = some (.int .i64 MA[i])
def gZ (h : Nat) (n y l v : Nat) : Int :=
  if h.testBit 0 ∧ ¬ (1 ≤ n ∧ n ≤ 8) then 1 else if h.testBit 0 ∧ ¬ (1 ≤ y ∧ y ≤ 16) then 1 else if h.testBit 2 ∧ ¬ (1 ≤ l ∧ l ≤ 16) then 1 else if 32 < v then 1
  else if (¬ h.testBit 0 ∧ 0 < n) ∨ (¬ h.testBit 1 ∧ 0 < y) ∨ (¬ h.testBit 2 ∧ 0 < l) ∨ (¬ h.testBit 3 ∧ 0 < v) then 4 else 0
theorem sD (w : World) (k : Nat) (k1 : 1 ≤ k) (k8 : k ≤ 8) (hg : 0 < w.heap.size) (hc : w.cell? ⟨0, k, none⟩ = some (.int .i64 0))
    (a0 a1 a2 a3 : Option Addr) (n y l v c0 c1 c2 c3 : Nat) (bn : n ≤ 9223372036854775807) (by' : y ≤ 9223372036854775807) (bl : l ≤ 9223372036854775807) (bv' : v ≤ 9223372036854775807) (hyc : y ≤ c1) (hyc' : c1 ≤ maxLen) (hlc : l ≤ c2) (hlc' : c2 ≤ maxLen) :
    Calls Tryz.prog 41 #[.agg #[.int .i64 k, .slice a0 n c0, .slice a1 y c1, .slice a2 l c2, .slice a3 v c3]] w (cS w (.int .i64 (gZ 0 n y l v))) := by
 have HA : Hid (gZ 0 n y l v = if 32 < v then 1 else if 0 < n ∨ 0 < y ∨ 0 < l ∨ 0 < v then 4 else 0) := by
  unfold Hid gZ
  rw [show (0 : Nat).testBit 0 = false from rfl, show (0 : Nat).testBit 1 = false from rfl, show (0 : Nat).testBit 2 = false from rfl, show (0 : Nat).testBit 3 = false from rfl]
  simp
 generalize gZ 0 n y l v = r at *
 have ix0 : ∀ (X : World) (n' y' l' v' : Nat), (Instr.index 91 (.agg #[.slice a0 n' c0, .slice a1 y' c1, .slice a2 l' c2, .slice a3 v' c3]) (.int .i64 0)).run Tryz.prog X = .ok (.slice a0 n' c0) X := fun _ _ _ _ _ => by kernel_rfl
 have ix1 : ∀ (X : World) (n' y' l' v' : Nat), (Instr.index 91 (.agg #[.slice a0 n' c0, .slice a1 y' c1, .slice a2 l' c2, .slice a3 v' c3]) (.int .i64 1)).run Tryz.prog X = .ok (.slice a1 y' c1) X := fun _ _ _ _ _ => by kernel_rfl
 have ix2 : ∀ (X : World) (n' y' l' v' : Nat), (Instr.index 91 (.agg #[.slice a0 n' c0, .slice a1 y' c1, .slice a2 l' c2, .slice a3 v' c3]) (.int .i64 2)).run Tryz.prog X = .ok (.slice a2 l' c2) X := fun _ _ _ _ _ => by kernel_rfl
 have ix3 : ∀ (X : World) (n' y' l' v' : Nat), (Instr.index 91 (.agg #[.slice a0 n' c0, .slice a1 y' c1, .slice a2 l' c2, .slice a3 v' c3]) (.int .i64 3)).run Tryz.prog X = .ok (.slice a3 v' c3) X := fun _ _ _ _ _ => by kernel_rfl
 go_enter Tryz.func41, Tryz.ntmps41
 go_wp2_with fail
 ·go_ret
  exact ⟨jO (Eq.symm (HA.out.trans (by first | rw [if_pos (by omega)] | rw [if_neg (by omega), if_pos (by omega)] | rw [if_neg (by omega), if_neg (by omega)]))), (Below.refl _ _).alloc (Nat.le_refl _) _⟩
 ·go_loop [58] (fun t => ∃ i : Nat, i ≤ 4 ∧ t = .int .i64 i ∧ (0 < i → n = 0) ∧ (1 < i → y = 0) ∧ (2 < i → l = 0) ∧ (3 < i → v = 0)) (fun t => 4 - (intOf t).toNat)
  case atStart => exact ⟨0, by omega, rfl, by omega⟩
  case round =>
   obtain ⟨i, hi, rfl, hok⟩ := hrel
   have HOK := hid hok
   clear hok
   rcases (by omega : i = 0 ∨ i = 1 ∨ i = 2 ∨ i = 3 ∨ i = 4) with rfl | rfl | rfl | rfl | rfl
   all_goals
    go_wp2_with fail
   all_goals first
    | exact ⟨⟨1, by omega, rfl, (by have h := HOK.out; omega)⟩, by simp [intOf]⟩
    | exact ⟨⟨_, _, _, _, ⟨1, by omega, rfl, (by have h := HOK.out; omega)⟩, rfl, rfl, rfl, rfl⟩, by simp [intOf]⟩
    | exact ⟨⟨2, by omega, rfl, (by have h := HOK.out; omega)⟩, by simp [intOf]⟩
    | exact ⟨⟨_, _, _, _, ⟨2, by omega, rfl, (by have h := HOK.out; omega)⟩, rfl, rfl, rfl, rfl⟩, by simp [intOf]⟩
    | exact ⟨⟨3, by omega, rfl, (by have h := HOK.out; omega)⟩, by simp [intOf]⟩
    | exact ⟨⟨_, _, _, _, ⟨3, by omega, rfl, (by have h := HOK.out; omega)⟩, rfl, rfl, rfl, rfl⟩, by simp [intOf]⟩
    | exact ⟨⟨4, by omega, rfl, (by have h := HOK.out; omega)⟩, by simp [intOf]⟩
    | exact ⟨⟨_, _, _, _, ⟨4, by omega, rfl, (by have h := HOK.out; omega)⟩, rfl, rfl, rfl, rfl⟩, by simp [intOf]⟩
    | (go_ret; have h := HOK.out; exact ⟨jO (Eq.symm (HA.out.trans (by first | rw [if_pos (by omega)] | rw [if_neg (by omega), if_pos (by omega)] | rw [if_neg (by omega), if_neg (by omega)]))), (Below.refl _ _).alloc (Nat.le_refl _) _⟩)
theorem sE (w : World) (k : Nat) (k1 : 1 ≤ k) (k8 : k ≤ 8) (hg : 0 < w.heap.size) (hc : w.cell? ⟨0, k, none⟩ = some (.int .i64 3))
    (a0 a1 a2 a3 : Option Addr) (n y l v c0 c1 c2 c3 : Nat) (bn : n ≤ 9223372036854775807) (by' : y ≤ 9223372036854775807) (bl : l ≤ 9223372036854775807) (bv' : v ≤ 9223372036854775807) (hyc : y ≤ c1) (hyc' : c1 ≤ maxLen) (hlc : l ≤ c2) (hlc' : c2 ≤ maxLen) :
    Calls Tryz.prog 41 #[.agg #[.int .i64 k, .slice a0 n c0, .slice a1 y c1, .slice a2 l c2, .slice a3 v c3]] w (cS w (.int .i64 (gZ 3 n y l v))) := by
 have HA : Hid (gZ 3 n y l v = if ¬ (1 ≤ n ∧ n ≤ 8) then 1 else if ¬ (1 ≤ y ∧ y ≤ 16) then 1 else if 32 < v then 1 else if 0 < l ∨ 0 < v then 4 else 0) := by
  unfold Hid gZ
  rw [show (3 : Nat).testBit 0 = true from rfl, show (3 : Nat).testBit 1 = true from rfl, show (3 : Nat).testBit 2 = false from rfl, show (3 : Nat).testBit 3 = false from rfl]
  simp
 generalize gZ 3 n y l v = r at *
 have ix0 : ∀ (X : World) (n' y' l' v' : Nat), (Instr.index 91 (.agg #[.slice a0 n' c0, .slice a1 y' c1, .slice a2 l' c2, .slice a3 v' c3]) (.int .i64 0)).run Tryz.prog X = .ok (.slice a0 n' c0) X := fun _ _ _ _ _ => by kernel_rfl
 have ix1 : ∀ (X : World) (n' y' l' v' : Nat), (Instr.index 91 (.agg #[.slice a0 n' c0, .slice a1 y' c1, .slice a2 l' c2, .slice a3 v' c3]) (.int .i64 1)).run Tryz.prog X = .ok (.slice a1 y' c1) X := fun _ _ _ _ _ => by kernel_rfl
 have ix2 : ∀ (X : World) (n' y' l' v' : Nat), (Instr.index 91 (.agg #[.slice a0 n' c0, .slice a1 y' c1, .slice a2 l' c2, .slice a3 v' c3]) (.int .i64 2)).run Tryz.prog X = .ok (.slice a2 l' c2) X := fun _ _ _ _ _ => by kernel_rfl
 have ix3 : ∀ (X : World) (n' y' l' v' : Nat), (Instr.index 91 (.agg #[.slice a0 n' c0, .slice a1 y' c1, .slice a2 l' c2, .slice a3 v' c3]) (.int .i64 3)).run Tryz.prog X = .ok (.slice a3 v' c3) X := fun _ _ _ _ _ => by kernel_rfl
 by_cases q0 : 1 ≤ n ∧ n ≤ 8
 case neg =>
  have h0 := hid (sP q0)
  go_enter Tryz.func41, Tryz.ntmps41
  go_wp2_with (go_at_call 42; refine (gC _ _ _ _).mono ?_; rw [h0.out]; rintro e w' ⟨rfl, rfl⟩)
  go_ret
  exact ⟨jO (Eq.symm (HA.out.trans (by first | rw [if_pos (by omega)] | rw [if_neg (by omega), if_pos (by omega)] | rw [if_neg (by omega), if_neg (by omega), if_pos (by omega)] | rw [if_neg (by omega), if_neg (by omega), if_neg (by omega), if_pos (by omega)] | rw [if_neg (by omega), if_neg (by omega), if_neg (by omega), if_neg (by omega)]))), (Below.refl _ _).alloc (Nat.le_refl _) _⟩
 by_cases q1 : 1 ≤ y ∧ y ≤ 16
 case neg =>
  have h0 := hid (kG q0.1 q0.2)
  have h1 := hid (mO q1)
  go_enter Tryz.func41, Tryz.ntmps41
  go_wp2_with (first | (go_at_call 42; refine (gC _ _ _ _).mono ?_; rw [h0.out]; rintro e w' ⟨rfl, rfl⟩) | (go_at_call 55; refine (iB _ _ _ _ hyc hyc').mono ?_; rw [h1.out]; rintro e w' ⟨rfl, rfl⟩))
  go_ret
  exact ⟨jO (Eq.symm (HA.out.trans (by first | rw [if_pos (by omega)] | rw [if_neg (by omega), if_pos (by omega)] | rw [if_neg (by omega), if_neg (by omega), if_pos (by omega)] | rw [if_neg (by omega), if_neg (by omega), if_neg (by omega), if_pos (by omega)] | rw [if_neg (by omega), if_neg (by omega), if_neg (by omega), if_neg (by omega)]))), (Below.refl _ _).alloc (Nat.le_refl _) _⟩
 have h0 := hid (kG q0.1 q0.2)
 have h1 := hid (iV q1.1 q1.2)
 go_enter Tryz.func41, Tryz.ntmps41
 go_wp2_with fail
 refine (gC _ _ _ _).mono ?_; rw [h0.out]; rintro e w' ⟨rfl, rfl⟩
 go_wp2_with fail
 refine (iB _ _ _ _ hyc hyc').mono ?_; rw [h1.out]; rintro e w' ⟨rfl, rfl⟩
 go_wp2_with fail
 ·go_ret
  exact ⟨jO (Eq.symm (HA.out.trans (by first | rw [if_pos (by omega)] | rw [if_neg (by omega), if_pos (by omega)] | rw [if_neg (by omega), if_neg (by omega), if_pos (by omega)] | rw [if_neg (by omega), if_neg (by omega), if_neg (by omega), if_pos (by omega)] | rw [if_neg (by omega), if_neg (by omega), if_neg (by omega), if_neg (by omega)]))), (Below.refl _ _).alloc (Nat.le_refl _) _⟩
 ·go_loop [58] (fun t => ∃ i : Nat, i ≤ 4 ∧ t = .int .i64 i ∧ (2 < i → l = 0) ∧ (3 < i → v = 0)) (fun t => 4 - (intOf t).toNat)
  case atStart => exact ⟨0, by omega, rfl, by omega⟩
  case round =>
   obtain ⟨i, hi, rfl, hok⟩ := hrel
   have HOK := hid hok
   clear hok
   rcases (by omega : i = 0 ∨ i = 1 ∨ i = 2 ∨ i = 3 ∨ i = 4) with rfl | rfl | rfl | rfl | rfl
   all_goals
    go_wp2_with fail
   all_goals first
    | exact ⟨⟨1, by omega, rfl, (by have h := HOK.out; omega)⟩, by simp [intOf]⟩
    | exact ⟨⟨_, _, _, _, ⟨1, by omega, rfl, (by have h := HOK.out; omega)⟩, rfl, rfl, rfl, rfl⟩, by simp [intOf]⟩
    | exact ⟨⟨2, by omega, rfl, (by have h := HOK.out; omega)⟩, by simp [intOf]⟩
    | exact ⟨⟨_, _, _, _, ⟨2, by omega, rfl, (by have h := HOK.out; omega)⟩, rfl, rfl, rfl, rfl⟩, by simp [intOf]⟩
    | exact ⟨⟨3, by omega, rfl, (by have h := HOK.out; omega)⟩, by simp [intOf]⟩
    | exact ⟨⟨_, _, _, _, ⟨3, by omega, rfl, (by have h := HOK.out; omega)⟩, rfl, rfl, rfl, rfl⟩, by simp [intOf]⟩
    | exact ⟨⟨4, by omega, rfl, (by have h := HOK.out; omega)⟩, by simp [intOf]⟩
    | exact ⟨⟨_, _, _, _, ⟨4, by omega, rfl, (by have h := HOK.out; omega)⟩, rfl, rfl, rfl, rfl⟩, by simp [intOf]⟩
    | (go_ret; have h := HOK.out; exact ⟨jO (Eq.symm (HA.out.trans (by first | rw [if_pos (by omega)] | rw [if_neg (by omega), if_pos (by omega)] | rw [if_neg (by omega), if_neg (by omega), if_pos (by omega)] | rw [if_neg (by omega), if_neg (by omega), if_neg (by omega), if_pos (by omega)] | rw [if_neg (by omega), if_neg (by omega), if_neg (by omega), if_neg (by omega)]))), (Below.refl _ _).alloc (Nat.le_refl _) _⟩)
theorem IX (w : World) (k : Nat) (k1 : 1 ≤ k) (k8 : k ≤ 8) (hg : 0 < w.heap.size) (hc : w.cell? ⟨0, k, none⟩ = some (.int .i64 7))
    (a0 a1 a2 a3 : Option Addr) (n y l v c0 c1 c2 c3 : Nat) (bn : n ≤ 9223372036854775807) (by' : y ≤ 9223372036854775807) (bl : l ≤ 9223372036854775807) (bv' : v ≤ 9223372036854775807) (hyc : y ≤ c1) (hyc' : c1 ≤ maxLen) (hlc : l ≤ c2) (hlc' : c2 ≤ maxLen) :
    Calls Tryz.prog 41 #[.agg #[.int .i64 k, .slice a0 n c0, .slice a1 y c1, .slice a2 l c2, .slice a3 v c3]] w (cS w (.int .i64 (gZ 7 n y l v))) := by
 have HA : Hid (gZ 7 n y l v = if ¬ (1 ≤ n ∧ n ≤ 8) then 1 else if ¬ (1 ≤ y ∧ y ≤ 16) then 1 else if ¬ (1 ≤ l ∧ l ≤ 16) then 1 else if 32 < v then 1 else if 0 < v then 4 else 0) := by
  unfold Hid gZ
  rw [show (7 : Nat).testBit 0 = true from rfl, show (7 : Nat).testBit 1 = true from rfl, show (7 : Nat).testBit 2 = true from rfl, show (7 : Nat).testBit 3 = false from rfl]
  simp
 generalize gZ 7 n y l v = r at *
 have ix0 : ∀ (X : World) (n' y' l' v' : Nat), (Instr.index 91 (.agg #[.slice a0 n' c0, .slice a1 y' c1, .slice a2 l' c2, .slice a3 v' c3]) (.int .i64 0)).run Tryz.prog X = .ok (.slice a0 n' c0) X := fun _ _ _ _ _ => by kernel_rfl
 have ix1 : ∀ (X : World) (n' y' l' v' : Nat), (Instr.index 91 (.agg #[.slice a0 n' c0, .slice a1 y' c1, .slice a2 l' c2, .slice a3 v' c3]) (.int .i64 1)).run Tryz.prog X = .ok (.slice a1 y' c1) X := fun _ _ _ _ _ => by kernel_rfl
 have ix2 : ∀ (X : World) (n' y' l' v' : Nat), (Instr.index 91 (.agg #[.slice a0 n' c0, .slice a1 y' c1, .slice a2 l' c2, .slice a3 v' c3]) (.int .i64 2)).run Tryz.prog X = .ok (.slice a2 l' c2) X := fun _ _ _ _ _ => by kernel_rfl
 have ix3 : ∀ (X : World) (n' y' l' v' : Nat), (Instr.index 91 (.agg #[.slice a0 n' c0, .slice a1 y' c1, .slice a2 l' c2, .slice a3 v' c3]) (.int .i64 3)).run Tryz.prog X = .ok (.slice a3 v' c3) X := fun _ _ _ _ _ => by kernel_rfl
 by_cases q0 : 1 ≤ n ∧ n ≤ 8
 case neg =>
  have h0 := hid (sP q0)
  go_enter Tryz.func41, Tryz.ntmps41
  go_wp2_with (go_at_call 42; refine (gC _ _ _ _).mono ?_; rw [h0.out]; rintro e w' ⟨rfl, rfl⟩)
  go_ret
  exact ⟨jO (Eq.symm (HA.out.trans (by first | rw [if_pos (by omega)] | rw [if_neg (by omega), if_pos (by omega)] | rw [if_neg (by omega), if_neg (by omega), if_pos (by omega)] | rw [if_neg (by omega), if_neg (by omega), if_neg (by omega), if_pos (by omega)] | rw [if_neg (by omega), if_neg (by omega), if_neg (by omega), if_neg (by omega), if_pos (by omega)] | rw [if_neg (by omega), if_neg (by omega), if_neg (by omega), if_neg (by omega), if_neg (by omega)]))), (Below.refl _ _).alloc (Nat.le_refl _) _⟩
 by_cases q1 : 1 ≤ y ∧ y ≤ 16
 case neg =>
  have h0 := hid (kG q0.1 q0.2)
  have h1 := hid (mO q1)
  go_enter Tryz.func41, Tryz.ntmps41
  go_wp2_with (first | (go_at_call 42; refine (gC _ _ _ _).mono ?_; rw [h0.out]; rintro e w' ⟨rfl, rfl⟩) | (go_at_call 55; refine (iB _ _ _ _ hyc hyc').mono ?_; rw [h1.out]; rintro e w' ⟨rfl, rfl⟩))
  go_ret
  exact ⟨jO (Eq.symm (HA.out.trans (by first | rw [if_pos (by omega)] | rw [if_neg (by omega), if_pos (by omega)] | rw [if_neg (by omega), if_neg (by omega), if_pos (by omega)] | rw [if_neg (by omega), if_neg (by omega), if_neg (by omega), if_pos (by omega)] | rw [if_neg (by omega), if_neg (by omega), if_neg (by omega), if_neg (by omega), if_pos (by omega)] | rw [if_neg (by omega), if_neg (by omega), if_neg (by omega), if_neg (by omega), if_neg (by omega)]))), (Below.refl _ _).alloc (Nat.le_refl _) _⟩
 have h0 := hid (kG q0.1 q0.2)
 have h1 := hid (iV q1.1 q1.2)
 by_cases q2 : 1 ≤ l ∧ l ≤ 16
 case neg =>
  have h2 := hid (mO q2)
  go_enter Tryz.func41, Tryz.ntmps41
  go_wp2_with fail
  refine (gC _ _ _ _).mono ?_; rw [h0.out]; rintro e w' ⟨rfl, rfl⟩
  go_wp2_with fail
  refine (iB _ _ _ _ hyc hyc').mono ?_; rw [h1.out]; rintro e w' ⟨rfl, rfl⟩
  go_wp2_with fail
  refine (iB _ _ _ _ hlc hlc').mono ?_; rw [h2.out]; rintro e w' ⟨rfl, rfl⟩
  go_wp2_with fail
  go_ret
  exact ⟨jO (Eq.symm (HA.out.trans (by first | rw [if_pos (by omega)] | rw [if_neg (by omega), if_pos (by omega)] | rw [if_neg (by omega), if_neg (by omega), if_pos (by omega)] | rw [if_neg (by omega), if_neg (by omega), if_neg (by omega), if_pos (by omega)] | rw [if_neg (by omega), if_neg (by omega), if_neg (by omega), if_neg (by omega), if_pos (by omega)] | rw [if_neg (by omega), if_neg (by omega), if_neg (by omega), if_neg (by omega), if_neg (by omega)]))), (Below.refl _ _).alloc (Nat.le_refl _) _⟩
 have h2 := hid (iV q2.1 q2.2)
 go_enter Tryz.func41, Tryz.ntmps41
 go_wp2_with fail
 refine (gC _ _ _ _).mono ?_; rw [h0.out]; rintro e w' ⟨rfl, rfl⟩
 go_wp2_with fail
 refine (iB _ _ _ _ hyc hyc').mono ?_; rw [h1.out]; rintro e w' ⟨rfl, rfl⟩
 go_wp2_with fail
 refine (iB _ _ _ _ hlc hlc').mono ?_; rw [h2.out]; rintro e w' ⟨rfl, rfl⟩
 go_wp2_with fail
 ·go_ret
  exact ⟨jO (Eq.symm (HA.out.trans (by first | rw [if_pos (by omega)] | rw [if_neg (by omega), if_pos (by omega)] | rw [if_neg (by omega), if_neg (by omega), if_pos (by omega)] | rw [if_neg (by omega), if_neg (by omega), if_neg (by omega), if_pos (by omega)] | rw [if_neg (by omega), if_neg (by omega), if_neg (by omega), if_neg (by omega), if_pos (by omega)] | rw [if_neg (by omega), if_neg (by omega), if_neg (by omega), if_neg (by omega), if_neg (by omega)]))), (Below.refl _ _).alloc (Nat.le_refl _) _⟩
 ·go_loop [58] (fun t => ∃ i : Nat, i ≤ 4 ∧ t = .int .i64 i ∧ (3 < i → v = 0)) (fun t => 4 - (intOf t).toNat)
  case atStart => exact ⟨0, by omega, rfl, by omega⟩
  case round =>
   obtain ⟨i, hi, rfl, hok⟩ := hrel
   have HOK := hid hok
   clear hok
   rcases (by omega : i = 0 ∨ i = 1 ∨ i = 2 ∨ i = 3 ∨ i = 4) with rfl | rfl | rfl | rfl | rfl
   all_goals
    go_wp2_with fail
   all_goals first
    | exact ⟨⟨1, by omega, rfl, (by have h := HOK.out; omega)⟩, by simp [intOf]⟩
    | exact ⟨⟨_, _, _, _, ⟨1, by omega, rfl, (by have h := HOK.out; omega)⟩, rfl, rfl, rfl, rfl⟩, by simp [intOf]⟩
    | exact ⟨⟨2, by omega, rfl, (by have h := HOK.out; omega)⟩, by simp [intOf]⟩
    | exact ⟨⟨_, _, _, _, ⟨2, by omega, rfl, (by have h := HOK.out; omega)⟩, rfl, rfl, rfl, rfl⟩, by simp [intOf]⟩
    | exact ⟨⟨3, by omega, rfl, (by have h := HOK.out; omega)⟩, by simp [intOf]⟩
    | exact ⟨⟨_, _, _, _, ⟨3, by omega, rfl, (by have h := HOK.out; omega)⟩, rfl, rfl, rfl, rfl⟩, by simp [intOf]⟩
    | exact ⟨⟨4, by omega, rfl, (by have h := HOK.out; omega)⟩, by simp [intOf]⟩
    | exact ⟨⟨_, _, _, _, ⟨4, by omega, rfl, (by have h := HOK.out; omega)⟩, rfl, rfl, rfl, rfl⟩, by simp [intOf]⟩
    | (go_ret; have h := HOK.out; exact ⟨jO (Eq.symm (HA.out.trans (by first | rw [if_pos (by omega)] | rw [if_neg (by omega), if_pos (by omega)] | rw [if_neg (by omega), if_neg (by omega), if_pos (by omega)] | rw [if_neg (by omega), if_neg (by omega), if_neg (by omega), if_pos (by omega)] | rw [if_neg (by omega), if_neg (by omega), if_neg (by omega), if_neg (by omega), if_pos (by omega)] | rw [if_neg (by omega), if_neg (by omega), if_neg (by omega), if_neg (by omega), if_neg (by omega)]))), (Below.refl _ _).alloc (Nat.le_refl _) _⟩)
theorem FY (w : World) (k : Nat) (k1 : 1 ≤ k) (k8 : k ≤ 8) (hg : 0 < w.heap.size) (hc : w.cell? ⟨0, k, none⟩ = some (.int .i64 11))
    (a0 a1 a2 a3 : Option Addr) (n y l v c0 c1 c2 c3 : Nat) (bn : n ≤ 9223372036854775807) (by' : y ≤ 9223372036854775807) (bl : l ≤ 9223372036854775807) (bv' : v ≤ 9223372036854775807) (hyc : y ≤ c1) (hyc' : c1 ≤ maxLen) (hlc : l ≤ c2) (hlc' : c2 ≤ maxLen) :
    Calls Tryz.prog 41 #[.agg #[.int .i64 k, .slice a0 n c0, .slice a1 y c1, .slice a2 l c2, .slice a3 v c3]] w (cS w (.int .i64 (gZ 11 n y l v))) := by
 have HA : Hid (gZ 11 n y l v = if ¬ (1 ≤ n ∧ n ≤ 8) then 1 else if ¬ (1 ≤ y ∧ y ≤ 16) then 1 else if 32 < v then 1 else if 0 < l then 4 else 0) := by
  unfold Hid gZ
  rw [show (11 : Nat).testBit 0 = true from rfl, show (11 : Nat).testBit 1 = true from rfl, show (11 : Nat).testBit 2 = false from rfl, show (11 : Nat).testBit 3 = true from rfl]
  simp
 generalize gZ 11 n y l v = r at *
 have ix0 : ∀ (X : World) (n' y' l' v' : Nat), (Instr.index 91 (.agg #[.slice a0 n' c0, .slice a1 y' c1, .slice a2 l' c2, .slice a3 v' c3]) (.int .i64 0)).run Tryz.prog X = .ok (.slice a0 n' c0) X := fun _ _ _ _ _ => by kernel_rfl
 have ix1 : ∀ (X : World) (n' y' l' v' : Nat), (Instr.index 91 (.agg #[.slice a0 n' c0, .slice a1 y' c1, .slice a2 l' c2, .slice a3 v' c3]) (.int .i64 1)).run Tryz.prog X = .ok (.slice a1 y' c1) X := fun _ _ _ _ _ => by kernel_rfl
 have ix2 : ∀ (X : World) (n' y' l' v' : Nat), (Instr.index 91 (.agg #[.slice a0 n' c0, .slice a1 y' c1, .slice a2 l' c2, .slice a3 v' c3]) (.int .i64 2)).run Tryz.prog X = .ok (.slice a2 l' c2) X := fun _ _ _ _ _ => by kernel_rfl
 have ix3 : ∀ (X : World) (n' y' l' v' : Nat), (Instr.index 91 (.agg #[.slice a0 n' c0, .slice a1 y' c1, .slice a2 l' c2, .slice a3 v' c3]) (.int .i64 3)).run Tryz.prog X = .ok (.slice a3 v' c3) X := fun _ _ _ _ _ => by kernel_rfl
 by_cases q0 : 1 ≤ n ∧ n ≤ 8
 case neg =>
  have h0 := hid (sP q0)
  go_enter Tryz.func41, Tryz.ntmps41
  go_wp2_with (go_at_call 42; refine (gC _ _ _ _).mono ?_; rw [h0.out]; rintro e w' ⟨rfl, rfl⟩)
  go_ret
  exact ⟨jO (Eq.symm (HA.out.trans (by first | rw [if_pos (by omega)] | rw [if_neg (by omega), if_pos (by omega)] | rw [if_neg (by omega), if_neg (by omega), if_pos (by omega)] | rw [if_neg (by omega), if_neg (by omega), if_neg (by omega), if_pos (by omega)] | rw [if_neg (by omega), if_neg (by omega), if_neg (by omega), if_neg (by omega)]))), (Below.refl _ _).alloc (Nat.le_refl _) _⟩
 by_cases q1 : 1 ≤ y ∧ y ≤ 16
 case neg =>
  have h0 := hid (kG q0.1 q0.2)
  have h1 := hid (mO q1)
  go_enter Tryz.func41, Tryz.ntmps41
  go_wp2_with (first | (go_at_call 42; refine (gC _ _ _ _).mono ?_; rw [h0.out]; rintro e w' ⟨rfl, rfl⟩) | (go_at_call 55; refine (iB _ _ _ _ hyc hyc').mono ?_; rw [h1.out]; rintro e w' ⟨rfl, rfl⟩))
  go_ret
  exact ⟨jO (Eq.symm (HA.out.trans (by first | rw [if_pos (by omega)] | rw [if_neg (by omega), if_pos (by omega)] | rw [if_neg (by omega), if_neg (by omega), if_pos (by omega)] | rw [if_neg (by omega), if_neg (by omega), if_neg (by omega), if_pos (by omega)] | rw [if_neg (by omega), if_neg (by omega), if_neg (by omega), if_neg (by omega)]))), (Below.refl _ _).alloc (Nat.le_refl _) _⟩
 have h0 := hid (kG q0.1 q0.2)
 have h1 := hid (iV q1.1 q1.2)
 go_enter Tryz.func41, Tryz.ntmps41
 go_wp2_with fail
 refine (gC _ _ _ _).mono ?_; rw [h0.out]; rintro e w' ⟨rfl, rfl⟩
 go_wp2_with fail
 refine (iB _ _ _ _ hyc hyc').mono ?_; rw [h1.out]; rintro e w' ⟨rfl, rfl⟩
 go_wp2_with fail
 ·go_ret
  exact ⟨jO (Eq.symm (HA.out.trans (by first | rw [if_pos (by omega)] | rw [if_neg (by omega), if_pos (by omega)] | rw [if_neg (by omega), if_neg (by omega), if_pos (by omega)] | rw [if_neg (by omega), if_neg (by omega), if_neg (by omega), if_pos (by omega)] | rw [if_neg (by omega), if_neg (by omega), if_neg (by omega), if_neg (by omega)]))), (Below.refl _ _).alloc (Nat.le_refl _) _⟩
 ·go_loop [58] (fun t => ∃ i : Nat, i ≤ 4 ∧ t = .int .i64 i ∧ (2 < i → l = 0)) (fun t => 4 - (intOf t).toNat)
  case atStart => exact ⟨0, by omega, rfl, by omega⟩
  case round =>
   obtain ⟨i, hi, rfl, hok⟩ := hrel
   have HOK := hid hok
   clear hok
   rcases (by omega : i = 0 ∨ i = 1 ∨ i = 2 ∨ i = 3 ∨ i = 4) with rfl | rfl | rfl | rfl | rfl
   all_goals
    go_wp2_with fail
   all_goals first
    | exact ⟨⟨1, by omega, rfl, (by have h := HOK.out; omega)⟩, by simp [intOf]⟩
    | exact ⟨⟨_, _, _, _, ⟨1, by omega, rfl, (by have h := HOK.out; omega)⟩, rfl, rfl, rfl, rfl⟩, by simp [intOf]⟩
    | exact ⟨⟨2, by omega, rfl, (by have h := HOK.out; omega)⟩, by simp [intOf]⟩
    | exact ⟨⟨_, _, _, _, ⟨2, by omega, rfl, (by have h := HOK.out; omega)⟩, rfl, rfl, rfl, rfl⟩, by simp [intOf]⟩
    | exact ⟨⟨3, by omega, rfl, (by have h := HOK.out; omega)⟩, by simp [intOf]⟩
    | exact ⟨⟨_, _, _, _, ⟨3, by omega, rfl, (by have h := HOK.out; omega)⟩, rfl, rfl, rfl, rfl⟩, by simp [intOf]⟩
    | exact ⟨⟨4, by omega, rfl, (by have h := HOK.out; omega)⟩, by simp [intOf]⟩
    | exact ⟨⟨_, _, _, _, ⟨4, by omega, rfl, (by have h := HOK.out; omega)⟩, rfl, rfl, rfl, rfl⟩, by simp [intOf]⟩
    | (go_ret; have h := HOK.out; exact ⟨jO (Eq.symm (HA.out.trans (by first | rw [if_pos (by omega)] | rw [if_neg (by omega), if_pos (by omega)] | rw [if_neg (by omega), if_neg (by omega), if_pos (by omega)] | rw [if_neg (by omega), if_neg (by omega), if_neg (by omega), if_pos (by omega)] | rw [if_neg (by omega), if_neg (by omega), if_neg (by omega), if_neg (by omega)]))), (Below.refl _ _).alloc (Nat.le_refl _) _⟩)
def AZ (F : Fz) (v : Value) (kind : Int) (n y l x : List UInt8) : Prop := ∃ a b c d, v = .agg #[.int .i64 kind, a, b, c, d] ∧ Bs F a n ∧ Bs F b y ∧ Bs F c l ∧ Bs F d x
def sF (k : Nat) (n y l v : Nat) : Int := gZ (MA.getD k 0).toNat n y l v
theorem sG (F : Fz) (w : World) (v : Value) (k : Nat) (n y l x : List UInt8) (k1 : 1 ≤ k) (k8 : k ≤ 8) (hh : Has w) (hv : AZ F v k n y l x) :
    Calls Tryz.prog 41 #[v] w (cS w (.int .i64 (sF k n.length y.length l.length x.length))) := by
 obtain ⟨a, b, c, d, rfl, ha, hb, hc, hd⟩ := hv
 obtain ⟨a0, c0, rfl, e1, e2⟩ := ha.shape
 obtain ⟨a1, c1, rfl, e3, e4⟩ := hb.shape
 obtain ⟨a2, c2, rfl, e5, e6⟩ := hc.shape
 obtain ⟨a3, c3, rfl, e7, e8⟩ := hd.shape
 have f2 := e2
 have f4 := e4
 have f6 := e6
 have f8 := e8
 unfold maxLen at f2 f4 f6 f8
 have hg : 0 < w.heap.size := World.block_lt_of_cell? w ⟨0, 0, none⟩ (hh 0 (by decide))
 have hk := hh k (by simp [MA]; omega)
 unfold sF
 rcases (by omega : k = 1 ∨ k = 2 ∨ k = 3 ∨ k = 4 ∨ k = 5 ∨ k = 6 ∨ k = 7 ∨ k = 8) with rfl | rfl | rfl | rfl | rfl | rfl | rfl | rfl
 ·exact sD w 1 k1 k8 hg hk _ _ _ _ _ _ _ _ _ _ _ _ (by omega) (by omega) (by omega) (by omega) e3 e4 e5 e6
 ·exact sE w 2 k1 k8 hg hk _ _ _ _ _ _ _ _ _ _ _ _ (by omega) (by omega) (by omega) (by omega) e3 e4 e5 e6
 ·exact IX w 3 k1 k8 hg hk _ _ _ _ _ _ _ _ _ _ _ _ (by omega) (by omega) (by omega) (by omega) e3 e4 e5 e6
 ·exact FY w 4 k1 k8 hg hk _ _ _ _ _ _ _ _ _ _ _ _ (by omega) (by omega) (by omega) (by omega) e3 e4 e5 e6
 ·exact sE w 5 k1 k8 hg hk _ _ _ _ _ _ _ _ _ _ _ _ (by omega) (by omega) (by omega) (by omega) e3 e4 e5 e6
 ·exact sD w 6 k1 k8 hg hk _ _ _ _ _ _ _ _ _ _ _ _ (by omega) (by omega) (by omega) (by omega) e3 e4 e5 e6
 ·exact sD w 7 k1 k8 hg hk _ _ _ _ _ _ _ _ _ _ _ _ (by omega) (by omega) (by omega) (by omega) e3 e4 e5 e6
 ·exact sE w 8 k1 k8 hg hk _ _ _ _ _ _ _ _ _ _ _ _ (by omega) (by omega) (by omega) (by omega) e3 e4 e5 e6
theorem Has.below {w w' : World} (h : Has w) (hb : Below w.heap.size w w') : Has w' := fun i hi => by
  rw [hb.cell (World.block_lt_of_cell? w ⟨0, i, none⟩ (h i hi))]; exact h i hi
def aX (k : Nat) : Nat := (MA.getD k 0).toNat
def Rq.part (r : Rq) : Nat → By
  | 0 => r.name
  | 1 => r.key
  | 2 => r.last
  | _ => r.value
def Rq.put (r : Rq) : Nat → By → Rq
  | 0, p => { r with name := p }
  | 1, p => { r with key := p }
  | 2, p => { r with last := p }
  | _, p => { r with value := p }
def gH (h : Nat) (r : Rq) : Nat → By
  | 0 => []
  | i + 1 => gH h r i ++ wJ (h.testBit i) (r.part i)
theorem MB (h : Nat) (r : Rq) : gH h r 4 = EA h r := by
 simp [gH, EA, Rq.part]
theorem tC {h i : Nat} (r : Rq) (e : h.testBit i = false) : gH h r (i + 1) = gH h r i := by
 simp [gH, wJ, e]
theorem qK {h i : Nat} (r : Rq) (e : h.testBit i = true) : gH h r (i + 1) = gH h r i ++ b8 (r.part i).length :: r.part i := by
 simp [gH, wJ, e, cZ]
def dM (h : Nat) : Nat → Nat → Rq → By → Option (Rq × By)
  | 0, _, r, b => some (r, b)
  | n + 1, i, r, b => if h.testBit i = true then
      match hH b with
      | none => none
      | some p => dM h n (i + 1) (r.put i p.1) p.2
    else dM h n (i + 1) r b
theorem dE {h n i : Nat} {r : Rq} {b : By} (e : h.testBit i = false) : dM h (n + 1) i r b = dM h n (i + 1) r b := by
 rw [dM, if_neg (by rw [e]; decide)]
theorem bK {h n i : Nat} {r : Rq} {b : By} (e : h.testBit i = true) (k : hH b = none) : dM h (n + 1) i r b = none := by
 rw [dM, if_pos e, k]
theorem cF {h n i : Nat} {r : Rq} {b : By} {p : By × By} (e : h.testBit i = true) (k : hH b = some p) : dM h (n + 1) i r b = dM h n (i + 1) (r.put i p.1) p.2 := by
 rw [dM, if_pos e, k]
theorem IY (h : Nat) (b : By) : dM h 4 0 ⟨[], [], [], []⟩ b = mS h b := by
 unfold mS wI
 cases e0 : h.testBit 0
 ·rw [dE e0]
  cases e1 : h.testBit 1
  ·rw [dE e1]
   cases e2 : h.testBit 2
   ·rw [dE e2]
    cases e3 : h.testBit 3
    ·rw [dE e3]; simp [dM]
    ·cases k3 : hH b with
     | none => rw [bK e3 k3]; simp [k3]
     | some p3 => rw [cF e3 k3]; simp [k3, dM, Rq.put]
   ·cases k2 : hH b with
    | none => rw [bK e2 k2]; simp [k2]
    | some p2 =>
     rw [cF e2 k2]
     cases e3 : h.testBit 3
     ·rw [dE e3]; simp [k2, dM, Rq.put]
     ·cases k3 : hH p2.2 with
      | none => rw [bK e3 k3]; simp [k2, k3]
      | some p3 => rw [cF e3 k3]; simp [k2, k3, dM, Rq.put]
  ·cases k1 : hH b with
   | none => rw [bK e1 k1]; simp [k1]
   | some p1 =>
    rw [cF e1 k1]
    cases e2 : h.testBit 2
    ·rw [dE e2]
     cases e3 : h.testBit 3
     ·rw [dE e3]; simp [k1, dM, Rq.put]
     ·cases k3 : hH p1.2 with
      | none => rw [bK e3 k3]; simp [k1, k3]
      | some p3 => rw [cF e3 k3]; simp [k1, k3, dM, Rq.put]
    ·cases k2 : hH p1.2 with
     | none => rw [bK e2 k2]; simp [k1, k2]
     | some p2 =>
      rw [cF e2 k2]
      cases e3 : h.testBit 3
      ·rw [dE e3]; simp [k1, k2, dM, Rq.put]
      ·cases k3 : hH p2.2 with
       | none => rw [bK e3 k3]; simp [k1, k2, k3]
       | some p3 => rw [cF e3 k3]; simp [k1, k2, k3, dM, Rq.put]
 ·cases k0 : hH b with
  | none => rw [bK e0 k0]; simp [k0]
  | some p0 =>
   rw [cF e0 k0]
   cases e1 : h.testBit 1
   ·rw [dE e1]
    cases e2 : h.testBit 2
    ·rw [dE e2]
     cases e3 : h.testBit 3
     ·rw [dE e3]; simp [dM, Rq.put]
     ·cases k3 : hH p0.2 with
      | none => rw [bK e3 k3]; simp [k3]
      | some p3 => rw [cF e3 k3]; simp [k3, dM, Rq.put]
    ·cases k2 : hH p0.2 with
     | none => rw [bK e2 k2]; simp [k2]
     | some p2 =>
      rw [cF e2 k2]
      cases e3 : h.testBit 3
      ·rw [dE e3]; simp [k2, dM, Rq.put]
      ·cases k3 : hH p2.2 with
       | none => rw [bK e3 k3]; simp [k2, k3]
       | some p3 => rw [cF e3 k3]; simp [k2, k3, dM, Rq.put]
   ·cases k1 : hH p0.2 with
    | none => rw [bK e1 k1]; simp [k1]
    | some p1 =>
     rw [cF e1 k1]
     cases e2 : h.testBit 2
     ·rw [dE e2]
      cases e3 : h.testBit 3
      ·rw [dE e3]; simp [k1, dM, Rq.put]
      ·cases k3 : hH p1.2 with
       | none => rw [bK e3 k3]; simp [k1, k3]
       | some p3 => rw [cF e3 k3]; simp [k1, k3, dM, Rq.put]
     ·cases k2 : hH p1.2 with
      | none => rw [bK e2 k2]; simp [k1, k2]
      | some p2 =>
       rw [cF e2 k2]
       cases e3 : h.testBit 3
       ·rw [dE e3]; simp [k1, k2, dM, Rq.put]
       ·cases k3 : hH p2.2 with
        | none => rw [bK e3 k3]; simp [k1, k2, k3]
        | some p3 => rw [cF e3 k3]; simp [k1, k2, k3, dM, Rq.put]
theorem wB {b : By} (h : b.length = 0) : hH b = none := by
 rw [List.eq_nil_of_length_eq_zero h]; rfl
theorem qL {b : By} {x : UInt8} (h : b[0]? = some x) (k : b.length < 1 + x.toNat) : hH b = none := by
 cases b with
 | nil => cases h
 | cons y t =>
  simp only [List.getElem?_cons_zero, Option.some.injEq] at h
  subst h
  simp only [List.length_cons] at k
  rw [pQ, if_pos (by omega)]
theorem tD {b : By} {x : UInt8} (h : b[0]? = some x) (k : ¬ b.length < 1 + x.toNat) : hH b = some ((b.take (1 + x.toNat)).drop 1, b.drop (1 + x.toNat)) := by
 cases b with
 | nil => cases h
 | cons y t =>
  simp only [List.getElem?_cons_zero, Option.some.injEq] at h
  subst h
  simp only [List.length_cons] at k
  rw [pQ, if_neg (by omega), Nat.add_comm 1]
  simp
def wdE (b : By) : Int :=
  if 4000 < b.length then 1 else match b with
  | [] => 14
  | x :: t => if x.toNat < 1 ∨ 8 < x.toNat then 5 else match mS (aX x.toNat) t with
    | none => 14
    | some p => if 0 < p.2.length then 4 else sF x.toNat p.1.name.length p.1.key.length p.1.last.length p.1.value.length
def wdR (b : By) : Nat × Rq :=
  if wdE b = 0 then match b with
    | [] => (0, ⟨[], [], [], []⟩)
    | x :: t => match mS (aX x.toNat) t with
      | none => (0, ⟨[], [], [], []⟩)
      | some p => (x.toNat, p.1)
  else (0, ⟨[], [], [], []⟩)
theorem TZ (k : Nat) (h : 1 ≤ k ∧ k ≤ 8) : aX k = 0 ∨ aX k = 3 ∨ aX k = 7 ∨ aX k = 11 := by
 rcases (by omega : k = 1 ∨ k = 2 ∨ k = 3 ∨ k = 4 ∨ k = 5 ∨ k = 6 ∨ k = 7 ∨ k = 8) with rfl | rfl | rfl | rfl | rfl | rfl | rfl | rfl <;> decide
theorem OG (k : Nat) (h : 1 ≤ k ∧ k ≤ 8) : (aX k).testBit 1 = (aX k).testBit 0 := by
 rcases TZ k h with e | e | e | e <;> rw [e] <;> rfl
theorem sH {h n y l v : Nat} (e : gZ h n y l v = 0) : (h.testBit 0 = true → 1 ≤ n ∧ n ≤ 8) ∧ (h.testBit 0 = true → 1 ≤ y ∧ y ≤ 16) ∧ (h.testBit 2 = true → 1 ≤ l ∧ l ≤ 16) ∧ v ≤ 32 ∧
    (h.testBit 0 = false → n = 0) ∧ (h.testBit 1 = false → y = 0) ∧ (h.testBit 2 = false → l = 0) ∧ (h.testBit 3 = false → v = 0) := by
 unfold gZ at e
 split at e
 exact absurd e (by decide)
 split at e
 exact absurd e (by decide)
 split at e
 exact absurd e (by decide)
 split at e
 exact absurd e (by decide)
 split at e
 exact absurd e (by decide)
 rename_i q1 q2 q3 q4 q5
 refine ⟨fun hb => Decidable.byContradiction fun hn => q1 ⟨hb, hn⟩, fun hb => Decidable.byContradiction fun hn => q2 ⟨hb, hn⟩, fun hb => Decidable.byContradiction fun hn => q3 ⟨hb, hn⟩, by omega, fun hb => ?_, fun hb => ?_, fun hb => ?_, fun hb => ?_⟩
 exact Decidable.byContradiction fun hn => q5 (Or.inl ⟨by rw [hb]; decide, by omega⟩)
 exact Decidable.byContradiction fun hn => q5 (Or.inr (Or.inl ⟨by rw [hb]; decide, by omega⟩))
 exact Decidable.byContradiction fun hn => q5 (Or.inr (Or.inr (Or.inl ⟨by rw [hb]; decide, by omega⟩)))
 exact Decidable.byContradiction fun hn => q5 (Or.inr (Or.inr (Or.inr ⟨by rw [hb]; decide, by omega⟩)))
theorem YH {k : Nat} (hk : 1 ≤ k ∧ k ≤ 8) {r : Rq} (h : sF k r.name.length r.key.length r.last.length r.value.length = 0) : FitsW (aX k) r := by
 obtain ⟨a1, a2, a3, a4, a5, a6, a7, a8⟩ := sH (h := aX k) h
 have hb := OG k hk
 have e0 : ∀ {l : By}, l.length = 0 → l = [] := fun h => List.eq_nil_of_length_eq_zero h
 refine ⟨⟨?_, fun q => e0 (a5 q)⟩, ⟨?_, fun q => e0 (a6 q)⟩, ⟨?_, fun q => e0 (a7 q)⟩, ⟨by omega, fun q => e0 (a8 q)⟩⟩
 cases e : (aX k).testBit 0
 have := a5 e; omega
 have := a1 e; omega
 cases e : (aX k).testBit 0
 have := a6 (hb.trans e); omega
 have := a2 e; omega
 cases e : (aX k).testBit 2
 have := a7 e; omega
 have := a3 e; omega
structure RqOk (k : Nat) (r : Rq) : Prop where
  kind : 1 ≤ k ∧ k ≤ 8
  fits : sF k r.name.length r.key.length r.last.length r.value.length = 0
def eO (k : Nat) (r : Rq) : By := b8 k :: EA (aX k) r
theorem RqOk.lens {k : Nat} {r : Rq} (h : RqOk k r) : r.name.length ≤ 8 ∧ r.key.length ≤ 16 ∧ r.last.length ≤ 16 ∧ r.value.length ≤ 32 := by
 obtain ⟨a1, a2, a3, a4, a5, a6, a7, a8⟩ := sH (h := aX k) h.fits
 have hb := OG k h.kind
 refine ⟨?_, ?_, ?_, a4⟩
 cases e : (aX k).testBit 0
 have := a5 e; omega
 have := a1 e; omega
 cases e : (aX k).testBit 0
 have := a6 (hb.trans e); omega
 have := a2 e; omega
 cases e : (aX k).testBit 2
 have := a7 e; omega
 have := a3 e; omega
theorem sI (c : Bool) (p : By) : (wJ c p).length ≤ p.length + 1 := by
 cases c <;> simp [wJ, cZ]
theorem IZ {k : Nat} {r : Rq} (h : RqOk k r) : (eO k r).length ≤ 77 := by
 obtain ⟨a1, a2, a3, a4⟩ := h.lens
 have := sI ((aX k).testBit 0) r.name
 have := sI ((aX k).testBit 1) r.key
 have := sI ((aX k).testBit 2) r.last
 have := sI ((aX k).testBit 3) r.value
 simp only [eO, EA, List.length_cons, List.length_append]
 omega
theorem Cb {k : Nat} (hk : 1 ≤ k ∧ k ≤ 8) {t : By} (hl : t.length < 4000) : wdE (b8 k :: t) = match mS (aX k) t with
    | none => 14
    | some p => if 0 < p.2.length then 4 else sF k p.1.name.length p.1.key.length p.1.last.length p.1.value.length := by
  unfold wdE
  rw [if_neg (by simp only [List.length_cons]; omega)]
  have e : (b8 k).toNat = k := lH (by omega)
  simp only [e]
  rw [if_neg (by omega)]
theorem tE {k : Nat} {r : Rq} (h : RqOk k r) : wdE (eO k r) = 0 ∧ wdR (eO k r) = (k, r) := by
 have hl := IZ h
 have hd := RI (YH h.kind h.fits) []
 rw [List.append_nil] at hd
 have he : wdE (eO k r) = 0 := by
  unfold eO at hl ⊢
  rw [Cb h.kind (by simp only [List.length_cons] at hl; omega), hd]
  simp only [List.length_nil]
  rw [if_neg (by omega)]
  exact h.fits
 have e : (b8 k).toNat = k := lH (by have := h.kind; omega)
 refine ⟨he, ?_⟩
 unfold wdR
 rw [if_pos he]
 unfold eO
 simp only [e, hd]
theorem JA {b : By} (h : wdE b = 0) : RqOk (wdR b).1 (wdR b).2 ∧ b = eO (wdR b).1 (wdR b).2 := by
 cases b with
 | nil => exact absurd h (by decide)
 | cons x t =>
  have hr : wdR (x :: t) = match mS (aX x.toNat) t with
    | none => (0, ⟨[], [], [], []⟩)
    | some p => (x.toNat, p.1) := by unfold wdR; rw [if_pos h]
  unfold wdE at h
  split at h
  exact absurd h (by decide)
  simp only at h
  split at h
  exact absurd h (by decide)
  rename_i hk
  cases hd : mS (aX x.toNat) t with
  | none => rw [hd] at h; simp at h
  | some p =>
   rw [hd] at h hr
   simp only at h hr
   split at h
   exact absurd h (by decide)
   rename_i hz
   rw [hr]
   have hi := (RJ hd).1
   rw [List.eq_nil_of_length_eq_zero (by omega : p.2.length = 0), List.append_nil] at hi
   refine ⟨⟨by simp only; omega, h⟩, ?_⟩
   simp only [eO, MW]
   rw [← hi]
theorem YI {b : By} (h : wdE b ≠ 0) : wdR b = (0, ⟨[], [], [], []⟩) := by unfold wdR; rw [if_neg h]
theorem jC {w : World} (h : Has w) {k : Nat} (hk : 1 ≤ k ∧ k ≤ 8) : w.cell? ⟨0, k, none⟩ = some (.int .i64 ((aX k : Nat) : Int)) := by
 have := h k (by simp [MA]; omega)
 rw [this]
 rcases (by omega : k = 1 ∨ k = 2 ∨ k = 3 ∨ k = 4 ∨ k = 5 ∨ k = 6 ∨ k = 7 ∨ k = 8) with rfl | rfl | rfl | rfl | rfl | rfl | rfl | rfl <;> rfl
theorem oD {h i : Nat} (e : h.testBit i = true) : h / 2 ^ i % 2 = 1 := by
 rw [Nat.testBit_eq_decide_div_mod_eq] at e
 exact of_decide_eq_true e
theorem sJ {h i : Nat} (e : h.testBit i = false) : h / 2 ^ i % 2 = 0 := by
 rw [Nat.testBit_eq_decide_div_mod_eq] at e
 have := of_decide_eq_false e
 omega
theorem eL {P : Program} {ρ : Operand → Value} {w : World} {d : Option Tmp} {t X E : TypeId} {n : Nat} {pos : String} {after : Array Edge} {guard : Option (Nat × Bool)} {x y : Operand} {cs : Array Value} {i : Nat} {v : Value} (hX : P.underlying X = some (.array n E)) (hs : (sizeOf E).run P w = .ok 1 w) (hx : ρ x = .agg cs) (hy : ρ y = .int .i64 i) (hi : i < n) (hb : (isAgg E).run P w = .ok false w) (hv : cs[i]? = some v) :
    (execOp ρ ⟨d, .index X x y, t, pos, after, guard⟩).run P w = .ok (.value v) w := by
 have h1 : (0 : Int) ≤ (i : Int) ∧ (i : Int) < (n : Int) := by omega
 simp [execOp, hx, hy, Instr.index, part, Sem.run_bind, run_underlying hX w, asIntOf, hs, h1, hb, hv, hi]
theorem fH {P : Program} {ρ : Operand → Value} {w : World} {d : Option Tmp} {t X E : TypeId} {n : Nat} {pos : String} {after : Array Edge} {guard : Option (Nat × Bool)} {x y : Operand} {b i : Nat} (hX : P.underlying X = some (.array n E)) (hs : (sizeOf E).run P w = .ok 1 w) (hx : ρ x = .pointer (some ⟨b, 0, none⟩)) (hy : ρ y = .int .i64 i) (hi : i < n) :
    (execOp ρ ⟨d, .indexAddr X x y, t, pos, after, guard⟩).run P w = .ok (.value (.pointer (some ⟨b, i, none⟩))) w := by
 have hadd : (⟨b, 0, none⟩ : Addr).add (i * 1) = ⟨b, i, none⟩ := by rw [Addr.add_mid]; simp
 have hlt : (0 : Int) ≤ (i : Int) ∧ (i : Int) < (n : Int) := by omega
 have hlt' : ¬ ((i : Int) < 0 ∨ (n : Int) ≤ (i : Int)) := by omega
 simp only [Nat.mul_one] at hadd
 simp [execOp, hx, hy, Instr.indexAt, Instr.sureAddr, asIntOf, Sem.run_bind, Sem.run_pure, Result.andThen_ok, run_underlying hX w, hs, hadd, hlt, hi]
theorem gM {P : Program} {ρ : Operand → Value} {w : World} {d : Option Tmp} {t X Y : TypeId} {x y : Operand} {pos : String} {after : Array Edge} {guard : Option (Nat × Bool)} {m n : Nat} (hx : ρ x = .int .i64 (m : Int)) (hy : ρ y = .int .i64 (n : Int)) (hn : n ≤ 64) : (execOp ρ ⟨d, .binOp .shr X x y Y, t, pos, after, guard⟩).run P w = .ok (.value (.int .i64 ((m / 2 ^ n : Nat) : Int))) w := by
 have e : (eqGuard .shr X x y (.int .i64 (m : Int)) (.int .i64 (n : Int))).run P w = .ok () w := rfl
 have h : (binOp .shr X (.int .i64 (m : Int)) (.int .i64 (n : Int))).run P w = .ok (.int .i64 ((m / 2 ^ n : Nat) : Int)) w := by
  show (Op.shift .shr .i64 (m : Int) .i64 (n : Int)).run P w = _
  unfold Op.shift
  rw [if_neg (by omega)]
  show Result.ok (Value.int .i64 (Int.fdiv (m : Int) (2 ^ (min (n : Int).toNat 64)))) w = _
  rw [Int.toNat_natCast, Nat.min_eq_left hn, Int.fdiv_eq_ediv_of_nonneg _ (show (0 : Int) ≤ 2 ^ n from Int.le_of_lt (Int.pow_pos (by decide)))]
  simp
 simp only [execOp, hx, hy, Sem.run_bind, e, Result.andThen_ok, h, Sem.run_pure]
theorem eM {P : Program} {ρ : Operand → Value} {w : World} {d : Option Tmp} {t X Y : TypeId} {x y : Operand} {pos : String} {after : Array Edge} {guard : Option (Nat × Bool)} {m : Nat} (hx : ρ x = .int .i64 (m : Int)) (hy : ρ y = .int .i64 1) : (execOp ρ ⟨d, .binOp .and X x y Y, t, pos, after, guard⟩).run P w = .ok (.value (.int .i64 ((m % 2 : Nat) : Int))) w := by
 refine iZ hx hy ?_
 rw [dU _ (by simp)]
 show Result.ok (Value.int .i64 (IntKind.i64.wrap ((BitVec.ofInt 64 (m : Int) &&& BitVec.ofInt 64 (1 : Int)).toNat : Int))) w = _
 have h1 : (BitVec.ofInt 64 (m : Int) &&& BitVec.ofInt 64 (1 : Int)).toNat = m % 2 := by
  rw [BitVec.toNat_and, BitVec.ofInt_natCast, show BitVec.ofInt 64 (1 : Int) = 1#64 from rfl, BitVec.toNat_ofNat, show (1#64).toNat = 1 from rfl, Nat.and_one_is_mod]
  omega
 rw [h1, iW (by omega) (by omega)]
theorem lB (F : Fz) (w : World) (v : Value) (k : Nat) (r : Rq) (hh : Has w) (hv : AZ F v k r.name r.key r.last r.value) (ok : RqOk k r) :
    Calls Tryz.prog 41 #[v] w (cS w (.int .i64 0)) := by
 have := sG F w v k r.name r.key r.last r.value ok.kind.1 ok.kind.2 hh hv
 rwa [ok.fits] at this
def Cn (b : By) (F : Fz) (u : Value) : Prop := ∃ x, u = .tuple #[x, .int .i64 0] ∧ Bs F x b
theorem iT {k : Nat} {r : Rq} (ok : RqOk k r) : ∀ i, i ≤ 4 → (gH (aX k) r i).length ≤ 33 * i := by
 obtain ⟨a1, a2, a3, a4⟩ := ok.lens
 intro i hi
 have h : ∀ j, j < 4 → (r.part j).length ≤ 32 := fun j hj => by
  rcases (by omega : j = 0 ∨ j = 1 ∨ j = 2 ∨ j = 3) with rfl | rfl | rfl | rfl
  ·exact Nat.le_trans a1 (by omega)
  ·exact Nat.le_trans a2 (by omega)
  ·exact Nat.le_trans a3 (by omega)
  ·exact a4
 clear a1 a2 a3 a4
 induction i with
 | zero => simp [gH]
 | succ i ih =>
  have := ih (by omega)
  have := h i (by omega)
  have := sI ((aX k).testBit i) (r.part i)
  simp only [gH, List.length_append]
  omega
theorem yB (F : Fz) (w : World) (v : Value) (k : Nat) (r : Rq) (hs : Sat w F) (hh : Has w) (hv : AZ F v k r.name r.key r.last r.value) (ok : RqOk k r) :
    Calls Tryz.prog 31 #[v] w (dI w F (Cn (eO k r))) := by
 have hk := ok.kind
 obtain ⟨a1, a2, a3, a4⟩ := ok.lens
 obtain ⟨_, _, _, _, rfl, h0, h1, h2, h3⟩ := hv
 obtain ⟨x0, y0, rfl, _⟩ := h0.shape
 obtain ⟨x1, y1, rfl, _⟩ := h1.shape
 obtain ⟨x2, y2, rfl, _⟩ := h2.shape
 obtain ⟨x3, y3, rfl, _⟩ := h3.shape
 obtain ⟨i5, hi5, hz5, hs5, hb5⟩ := info_parts pG
 have S := St.start hs
 go_enter Tryz.func31, Tryz.ntmps31
 refine sk fun K1 hK1 => ?_
 refine bB S (v := fun n => .pointer (aA n 0)) rfl (bQ (v := (.agg #[(nI k), (.slice x0 r.name.length y0), (.slice x1 r.key.length y1), (.slice x2 r.last.length y2), (.slice x3 r.value.length y3)])) rfl) (fun n2 w3 S4 => ?_)
 iterate 2 refine dy ?_
 refine wn hK1 ?_
 refine aE fun K5 hK5 => ?_
 refine sk fun K6 hK6 => ?_
 refine dR S4 0 Tryz.underlying27 (bM) ?_
 simp only [pq]
 refine aK (v := (iI 0)) S4 rfl (fn1 (EV _ _)) (lB _ _ _ k r (hh.below S4.gr.below) ⟨_, _, _, _, rfl, h0, h1, h2, h3⟩ ok) (fun w7 S8 => ?_)
 refine dy ?_
 refine wn hK6 ?_
 refine sk fun K9 hK9 => ?_
 refine dx ?_
 refine dr bF (bP (m := (0 : Int)) (n := (0 : Int)) (b := false) rfl rfl (bne_eq_false_iff_eq.2 (rfl))) ?_
 simp only [pq]
 refine wn hK9 ?_
 refine aF ?_
 refine aH ?_
 refine hK5 _ _ ?_
 refine sk fun g0 b7 => ?_
 refine aC ?_
 refine dr (bv (b8 k)) (bA (v := (nI k)) rfl (jK k _)) ?_
 simp only [pq]
 refine bB S8 (v := fun n => .slice (aA n 0) 1 1) rfl (cX (ps := #[(0, (bv (b8 k)))]) (cells := #[(bv (b8 k))]) (E := 5) (dH rfl) (fun w => by kernel_rfl)) (fun b9 e1 d2 => ?_)
 refine dy ?_
 refine wn b7 ?_
 refine aE fun g1 c0 => ?_
 refine sk fun g2 c1 => ?_
 refine aC ?_
 refine dr (.agg #[(.slice x0 r.name.length y0), (.slice x1 r.key.length y1), (.slice x2 r.last.length y2), (.slice x3 r.value.length y3)]) (aJ (nR rfl rfl rfl rfl) (by kernel_rfl)) ?_
 simp only [pq]
 refine dx ?_
 refine wn c1 ?_
 refine aM ?_
 have e2 : St w F e1 F [⟨n2, [(nI k), (.slice x0 r.name.length y0), (.slice x1 r.key.length y1), (.slice x2 r.last.length y2), (.slice x3 r.value.length y3)], 27⟩] [cI 1 ByC ByC.mono 5 w.heap.size (.slice (aA b9 0) 1 1) [b8 k]] := St.blkRow (k := 1) (l := [b8 k]) (el := [[(bv (b8 k))]]) (hR := ByC.mono) d2 rfl ⟨rfl, trivial⟩ (by simp) rfl (by simp) (by unfold maxLen; decide) (d2.blk _ (List.mem_cons_self ..)).2.2
 refine aW (fun mm aa e3 => ∃ (i : Nat) (v : Value) (a9 : Fz) (b1 : Nat → Value), mm = 4 - i ∧ b1 = eC aa ∧ aa = ⟨([(.agg #[(nI k), (.slice x0 r.name.length y0), (.slice x1 r.key.length y1), (.slice x2 r.last.length y2), (.slice x3 r.value.length y3)]), (pP n2 0), Zn, (iI 0), (iI 0), v, (b1 6), (b1 7), (.agg #[(nI k), (.slice x0 r.name.length y0), (.slice x1 r.key.length y1), (.slice x2 r.last.length y2), (.slice x3 r.value.length y3)]), (iI 0), (iI 0), bF, undef, (pP n2 0), (nI k), (bv (b8 k)), (.slice (aA b9 0) 1 1), (pP n2 1), (.slice x0 r.name.length y0), (pP n2 2), (.slice x1 r.key.length y1), (pP n2 3), (.slice x2 r.last.length y2), (pP n2 4), (.slice x3 r.value.length y3), (.agg #[(.slice x0 r.name.length y0), (.slice x1 r.key.length y1), (.slice x2 r.last.length y2), (.slice x3 r.value.length y3)]), (nI i)] ++ (usF b1 27 20 [undef])).toArray, []⟩ ∧ St w F e3 a9 [⟨n2, [(nI k), (.slice x0 r.name.length y0), (.slice x1 r.key.length y1), (.slice x2 r.last.length y2), (.slice x3 r.value.length y3)], 27⟩] [cI 1 ByC ByC.mono 5 w.heap.size v (b8 k :: gH (aX k) r i)] ∧ Le F a9 ∧ (i ≤ 4)) _ ⟨0, (.slice (aA b9 0) 1 1), F, _, rfl, rfl, rfl, e2, Le.refl _, (by omega)⟩ ?_
 rintro g3 g4 g5 ⟨i, v, a9, b1, rfl, -, hfr, a5, a0, hi4⟩ g6 a6
 simp only [uzF, Nat.reduceAdd] at hfr; subst hfr
 refine sk fun g7 b2 => ?_
 by_cases e4 : i < 4
 ·refine fA ?_
  refine wn b2 ?_
  refine aE fun g8 c2 => ?_
  refine aI ?_
  refine aH ?_
  refine c2 _ _ ?_
  refine aE fun g9 a7 => ?_
  refine aM ?_
  refine aE fun h5 a8 => ?_
  rcases (by omega : i = 0 ∨ i = 1 ∨ i = 2 ∨ i = 3) with h4 | h4 | h4 | h4
  ·by_cases he : (aX k).testBit i = true
   ·have hx := oD he
    have hpl := iT ok i (by omega)
    refine aB ?_
    refine dx ?_
    refine dr (.slice x0 r.name.length y0) (eL (i := i) Tryz.underlying91 (iC _) rfl rfl (by omega) (bC _) (by rw [h4]; rfl)) ?_
    refine aC ?_
    refine wlK a8 ?_
    refine sk fun h6 c3 => ?_
    refine aC ?_
    refine dr (pP 0 k) (fH (i := k) Tryz.underlying92 (eI _) rfl rfl (by omega)) ?_
    simp only [pq]
    refine dr _ (aD rfl (aR (bL _) (jC (hh.below a5.gr.below) hk))) ?_
    refine dx ?_
    refine dr (nI ((aX k) / 2 ^ i)) (gM (m := (aX k)) (n := i) rfl rfl (by omega)) ?_
    simp only [pq]
    refine dr (.int .i64 (((((aX k) / 2 ^ i) % 2) : Nat) : Int)) (eM (m := ((aX k) / 2 ^ i)) rfl rfl) ?_
    refine dr bT (cB (m := (((((aX k) / 2 ^ i) % 2) : Nat) : Int)) (n := (1 : Int)) (b := true) rfl rfl (beq_iff_eq.2 (by rw [hx]; rfl))) ?_
    refine wn c3 ?_
    refine aI ?_
    refine aB ?_
    refine aC ?_
    refine dr (bv (b8 r.name.length)) (bA (v := (nI r.name.length)) rfl (jK r.name.length _)) ?_
    refine bB a5 (v := fun n => .slice (aA n 0) 1 1) rfl (cX (ps := #[(0, (bv (b8 r.name.length)))]) (cells := #[(bv (b8 r.name.length))]) (E := 5) (dH rfl) (fun w => by kernel_rfl)) (fun h7 h8 d3 => ?_)
    refine fJ (i := 0) (r := 0) (p := (b8 r.name.length)) (cs := [(bv (b8 r.name.length))]) d3 rfl i5 (.int .u8 0) 1 Tryz.underlying25 hi5 hz5 hs5 hb5 rfl (by decide) rfl rfl rfl rfl rfl (qE (b8 r.name.length)) (rfl) (Nat.le_refl _) d3.gr.below.size (by unfold maxLen; simp only [List.length_cons, List.length_append]; omega) (by simp only [List.length_cons, List.length_append]; omega) ?_
    intro h9 i0 b3 e5
    simp only [pq]
    have b3 := St.drop b3 (.cons _ (List.Sublist.refl _))
    refine dx ?_
    refine fL (r := 0) (u := (.slice x0 r.name.length y0)) b3 rfl i5 (.int .u8 0) 1 Tryz.underlying25 hi5 hz5 hs5 hb5 rfl (by decide) rfl rfl rfl (Sl.toW (Bs.sl (h0.mono a0)) (b3).sat) ByC.one (Nat.le_refl _) b3.gr.below.size (by unfold maxLen; simp only [List.length_cons, List.length_append, List.length_nil]; omega) (by simp only [List.length_cons, List.length_append, List.length_nil]; omega) ?_
    intro e6 i1 d4 e7
    refine dy ?_
    refine wlK a7 ?_
    rw [show (((b8 k :: gH (aX k) r i) ++ [(b8 r.name.length)]) ++ r.name) = b8 k :: gH (aX k) r (i + 1) from by rw [qK r he, h4]; simp [Rq.part]] at d4
    refine aB ?_
    refine cN (i + 1) ?_
    refine dx ?_
    simp only [pq]
    refine aG ?_
    exact a6 _ _ _ (by omega) ⟨(i + 1), e6, a9, _, rfl, rfl, rfl, d4, a0, (by omega)⟩
   ·have he : (aX k).testBit i = false := by simpa using he
    have hx := sJ he
    have hpl := iT ok i (by omega)
    refine aB ?_
    refine dx ?_
    refine dr (.slice x0 r.name.length y0) (eL (i := i) Tryz.underlying91 (iC _) rfl rfl (by omega) (bC _) (by rw [h4]; rfl)) ?_
    refine aC ?_
    refine wlK a8 ?_
    refine sk fun i2 c4 => ?_
    refine aC ?_
    refine dr (pP 0 k) (fH (i := k) Tryz.underlying92 (eI _) rfl rfl (by omega)) ?_
    simp only [pq]
    refine dr _ (aD rfl (aR (bL _) (jC (hh.below a5.gr.below) hk))) ?_
    refine dx ?_
    refine dr (nI ((aX k) / 2 ^ i)) (gM (m := (aX k)) (n := i) rfl rfl (by omega)) ?_
    simp only [pq]
    refine dr (.int .i64 (((((aX k) / 2 ^ i) % 2) : Nat) : Int)) (eM (m := ((aX k) / 2 ^ i)) rfl rfl) ?_
    refine dr bF (cB (m := (((((aX k) / 2 ^ i) % 2) : Nat) : Int)) (n := (1 : Int)) (b := false) rfl rfl (beq_eq_false_iff_ne.2 (by rw [hx]; decide))) ?_
    refine wn c4 ?_
    refine aF ?_
    refine aH ?_
    refine a7 _ _ ?_
    rw [← tC r he] at a5
    refine aB ?_
    refine cN (i + 1) ?_
    refine dx ?_
    simp only [pq]
    refine aG ?_
    exact a6 _ _ _ (by omega) ⟨(i + 1), v, a9, _, rfl, rfl, rfl, a5, a0, (by omega)⟩
  ·by_cases he : (aX k).testBit i = true
   ·have hx := oD he
    have hpl := iT ok i (by omega)
    refine aB ?_
    refine dx ?_
    refine dr (.slice x1 r.key.length y1) (eL (i := i) Tryz.underlying91 (iC _) rfl rfl (by omega) (bC _) (by rw [h4]; rfl)) ?_
    refine aC ?_
    refine wlK a8 ?_
    refine sk fun i3 c5 => ?_
    refine aC ?_
    refine dr (pP 0 k) (fH (i := k) Tryz.underlying92 (eI _) rfl rfl (by omega)) ?_
    simp only [pq]
    refine dr _ (aD rfl (aR (bL _) (jC (hh.below a5.gr.below) hk))) ?_
    refine dx ?_
    refine dr (nI ((aX k) / 2 ^ i)) (gM (m := (aX k)) (n := i) rfl rfl (by omega)) ?_
    simp only [pq]
    refine dr (.int .i64 (((((aX k) / 2 ^ i) % 2) : Nat) : Int)) (eM (m := ((aX k) / 2 ^ i)) rfl rfl) ?_
    refine dr bT (cB (m := (((((aX k) / 2 ^ i) % 2) : Nat) : Int)) (n := (1 : Int)) (b := true) rfl rfl (beq_iff_eq.2 (by rw [hx]; rfl))) ?_
    refine wn c5 ?_
    refine aI ?_
    refine aB ?_
    refine aC ?_
    refine dr (bv (b8 r.key.length)) (bA (v := (nI r.key.length)) rfl (jK r.key.length _)) ?_
    refine bB a5 (v := fun n => .slice (aA n 0) 1 1) rfl (cX (ps := #[(0, (bv (b8 r.key.length)))]) (cells := #[(bv (b8 r.key.length))]) (E := 5) (dH rfl) (fun w => by kernel_rfl)) (fun i4 i6 d5 => ?_)
    refine fJ (i := 0) (r := 0) (p := (b8 r.key.length)) (cs := [(bv (b8 r.key.length))]) d5 rfl i5 (.int .u8 0) 1 Tryz.underlying25 hi5 hz5 hs5 hb5 rfl (by decide) rfl rfl rfl rfl rfl (qE (b8 r.key.length)) (rfl) (Nat.le_refl _) d5.gr.below.size (by unfold maxLen; simp only [List.length_cons, List.length_append]; omega) (by simp only [List.length_cons, List.length_append]; omega) ?_
    intro i7 i8 b4 e8
    simp only [pq]
    have b4 := St.drop b4 (.cons _ (List.Sublist.refl _))
    refine dx ?_
    refine fL (r := 0) (u := (.slice x1 r.key.length y1)) b4 rfl i5 (.int .u8 0) 1 Tryz.underlying25 hi5 hz5 hs5 hb5 rfl (by decide) rfl rfl rfl (Sl.toW (Bs.sl (h1.mono a0)) (b4).sat) ByC.one (Nat.le_refl _) b4.gr.below.size (by unfold maxLen; simp only [List.length_cons, List.length_append, List.length_nil]; omega) (by simp only [List.length_cons, List.length_append, List.length_nil]; omega) ?_
    intro e9 i9 d6 f0
    refine dy ?_
    refine wlK a7 ?_
    rw [show (((b8 k :: gH (aX k) r i) ++ [(b8 r.key.length)]) ++ r.key) = b8 k :: gH (aX k) r (i + 1) from by rw [qK r he, h4]; simp [Rq.part]] at d6
    refine aB ?_
    refine cN (i + 1) ?_
    refine dx ?_
    simp only [pq]
    refine aG ?_
    exact a6 _ _ _ (by omega) ⟨(i + 1), e9, a9, _, rfl, rfl, rfl, d6, a0, (by omega)⟩
   ·have he : (aX k).testBit i = false := by simpa using he
    have hx := sJ he
    have hpl := iT ok i (by omega)
    refine aB ?_
    refine dx ?_
    refine dr (.slice x1 r.key.length y1) (eL (i := i) Tryz.underlying91 (iC _) rfl rfl (by omega) (bC _) (by rw [h4]; rfl)) ?_
    refine aC ?_
    refine wlK a8 ?_
    refine sk fun j0 c6 => ?_
    refine aC ?_
    refine dr (pP 0 k) (fH (i := k) Tryz.underlying92 (eI _) rfl rfl (by omega)) ?_
    simp only [pq]
    refine dr _ (aD rfl (aR (bL _) (jC (hh.below a5.gr.below) hk))) ?_
    refine dx ?_
    refine dr (nI ((aX k) / 2 ^ i)) (gM (m := (aX k)) (n := i) rfl rfl (by omega)) ?_
    simp only [pq]
    refine dr (.int .i64 (((((aX k) / 2 ^ i) % 2) : Nat) : Int)) (eM (m := ((aX k) / 2 ^ i)) rfl rfl) ?_
    refine dr bF (cB (m := (((((aX k) / 2 ^ i) % 2) : Nat) : Int)) (n := (1 : Int)) (b := false) rfl rfl (beq_eq_false_iff_ne.2 (by rw [hx]; decide))) ?_
    refine wn c6 ?_
    refine aF ?_
    refine aH ?_
    refine a7 _ _ ?_
    rw [← tC r he] at a5
    refine aB ?_
    refine cN (i + 1) ?_
    refine dx ?_
    simp only [pq]
    refine aG ?_
    exact a6 _ _ _ (by omega) ⟨(i + 1), v, a9, _, rfl, rfl, rfl, a5, a0, (by omega)⟩
  ·by_cases he : (aX k).testBit i = true
   ·have hx := oD he
    have hpl := iT ok i (by omega)
    refine aB ?_
    refine dx ?_
    refine dr (.slice x2 r.last.length y2) (eL (i := i) Tryz.underlying91 (iC _) rfl rfl (by omega) (bC _) (by rw [h4]; rfl)) ?_
    refine aC ?_
    refine wlK a8 ?_
    refine sk fun j1 c7 => ?_
    refine aC ?_
    refine dr (pP 0 k) (fH (i := k) Tryz.underlying92 (eI _) rfl rfl (by omega)) ?_
    simp only [pq]
    refine dr _ (aD rfl (aR (bL _) (jC (hh.below a5.gr.below) hk))) ?_
    refine dx ?_
    refine dr (nI ((aX k) / 2 ^ i)) (gM (m := (aX k)) (n := i) rfl rfl (by omega)) ?_
    simp only [pq]
    refine dr (.int .i64 (((((aX k) / 2 ^ i) % 2) : Nat) : Int)) (eM (m := ((aX k) / 2 ^ i)) rfl rfl) ?_
    refine dr bT (cB (m := (((((aX k) / 2 ^ i) % 2) : Nat) : Int)) (n := (1 : Int)) (b := true) rfl rfl (beq_iff_eq.2 (by rw [hx]; rfl))) ?_
    refine wn c7 ?_
    refine aI ?_
    refine aB ?_
    refine aC ?_
    refine dr (bv (b8 r.last.length)) (bA (v := (nI r.last.length)) rfl (jK r.last.length _)) ?_
    refine bB a5 (v := fun n => .slice (aA n 0) 1 1) rfl (cX (ps := #[(0, (bv (b8 r.last.length)))]) (cells := #[(bv (b8 r.last.length))]) (E := 5) (dH rfl) (fun w => by kernel_rfl)) (fun j2 j3 d7 => ?_)
    refine fJ (i := 0) (r := 0) (p := (b8 r.last.length)) (cs := [(bv (b8 r.last.length))]) d7 rfl i5 (.int .u8 0) 1 Tryz.underlying25 hi5 hz5 hs5 hb5 rfl (by decide) rfl rfl rfl rfl rfl (qE (b8 r.last.length)) (rfl) (Nat.le_refl _) d7.gr.below.size (by unfold maxLen; simp only [List.length_cons, List.length_append]; omega) (by simp only [List.length_cons, List.length_append]; omega) ?_
    intro j4 j5 b5 f1
    simp only [pq]
    have b5 := St.drop b5 (.cons _ (List.Sublist.refl _))
    refine dx ?_
    refine fL (r := 0) (u := (.slice x2 r.last.length y2)) b5 rfl i5 (.int .u8 0) 1 Tryz.underlying25 hi5 hz5 hs5 hb5 rfl (by decide) rfl rfl rfl (Sl.toW (Bs.sl (h2.mono a0)) (b5).sat) ByC.one (Nat.le_refl _) b5.gr.below.size (by unfold maxLen; simp only [List.length_cons, List.length_append, List.length_nil]; omega) (by simp only [List.length_cons, List.length_append, List.length_nil]; omega) ?_
    intro f2 j6 d8 f3
    refine dy ?_
    refine wlK a7 ?_
    rw [show (((b8 k :: gH (aX k) r i) ++ [(b8 r.last.length)]) ++ r.last) = b8 k :: gH (aX k) r (i + 1) from by rw [qK r he, h4]; simp [Rq.part]] at d8
    refine aB ?_
    refine cN (i + 1) ?_
    refine dx ?_
    simp only [pq]
    refine aG ?_
    exact a6 _ _ _ (by omega) ⟨(i + 1), f2, a9, _, rfl, rfl, rfl, d8, a0, (by omega)⟩
   ·have he : (aX k).testBit i = false := by simpa using he
    have hx := sJ he
    have hpl := iT ok i (by omega)
    refine aB ?_
    refine dx ?_
    refine dr (.slice x2 r.last.length y2) (eL (i := i) Tryz.underlying91 (iC _) rfl rfl (by omega) (bC _) (by rw [h4]; rfl)) ?_
    refine aC ?_
    refine wlK a8 ?_
    refine sk fun j7 c8 => ?_
    refine aC ?_
    refine dr (pP 0 k) (fH (i := k) Tryz.underlying92 (eI _) rfl rfl (by omega)) ?_
    simp only [pq]
    refine dr _ (aD rfl (aR (bL _) (jC (hh.below a5.gr.below) hk))) ?_
    refine dx ?_
    refine dr (nI ((aX k) / 2 ^ i)) (gM (m := (aX k)) (n := i) rfl rfl (by omega)) ?_
    simp only [pq]
    refine dr (.int .i64 (((((aX k) / 2 ^ i) % 2) : Nat) : Int)) (eM (m := ((aX k) / 2 ^ i)) rfl rfl) ?_
    refine dr bF (cB (m := (((((aX k) / 2 ^ i) % 2) : Nat) : Int)) (n := (1 : Int)) (b := false) rfl rfl (beq_eq_false_iff_ne.2 (by rw [hx]; decide))) ?_
    refine wn c8 ?_
    refine aF ?_
    refine aH ?_
    refine a7 _ _ ?_
    rw [← tC r he] at a5
    refine aB ?_
    refine cN (i + 1) ?_
    refine dx ?_
    simp only [pq]
    refine aG ?_
    exact a6 _ _ _ (by omega) ⟨(i + 1), v, a9, _, rfl, rfl, rfl, a5, a0, (by omega)⟩
  ·by_cases he : (aX k).testBit i = true
   ·have hx := oD he
    have hpl := iT ok i (by omega)
    refine aB ?_
    refine dx ?_
    refine dr (.slice x3 r.value.length y3) (eL (i := i) Tryz.underlying91 (iC _) rfl rfl (by omega) (bC _) (by rw [h4]; rfl)) ?_
    refine aC ?_
    refine wlK a8 ?_
    refine sk fun j8 c9 => ?_
    refine aC ?_
    refine dr (pP 0 k) (fH (i := k) Tryz.underlying92 (eI _) rfl rfl (by omega)) ?_
    simp only [pq]
    refine dr _ (aD rfl (aR (bL _) (jC (hh.below a5.gr.below) hk))) ?_
    refine dx ?_
    refine dr (nI ((aX k) / 2 ^ i)) (gM (m := (aX k)) (n := i) rfl rfl (by omega)) ?_
    simp only [pq]
    refine dr (.int .i64 (((((aX k) / 2 ^ i) % 2) : Nat) : Int)) (eM (m := ((aX k) / 2 ^ i)) rfl rfl) ?_
    refine dr bT (cB (m := (((((aX k) / 2 ^ i) % 2) : Nat) : Int)) (n := (1 : Int)) (b := true) rfl rfl (beq_iff_eq.2 (by rw [hx]; rfl))) ?_
    refine wn c9 ?_
    refine aI ?_
    refine aB ?_
    refine aC ?_
    refine dr (bv (b8 r.value.length)) (bA (v := (nI r.value.length)) rfl (jK r.value.length _)) ?_
    refine bB a5 (v := fun n => .slice (aA n 0) 1 1) rfl (cX (ps := #[(0, (bv (b8 r.value.length)))]) (cells := #[(bv (b8 r.value.length))]) (E := 5) (dH rfl) (fun w => by kernel_rfl)) (fun j9 k0 d9 => ?_)
    refine fJ (i := 0) (r := 0) (p := (b8 r.value.length)) (cs := [(bv (b8 r.value.length))]) d9 rfl i5 (.int .u8 0) 1 Tryz.underlying25 hi5 hz5 hs5 hb5 rfl (by decide) rfl rfl rfl rfl rfl (qE (b8 r.value.length)) (rfl) (Nat.le_refl _) d9.gr.below.size (by unfold maxLen; simp only [List.length_cons, List.length_append]; omega) (by simp only [List.length_cons, List.length_append]; omega) ?_
    intro k1 k2 b6 f4
    simp only [pq]
    have b6 := St.drop b6 (.cons _ (List.Sublist.refl _))
    refine dx ?_
    refine fL (r := 0) (u := (.slice x3 r.value.length y3)) b6 rfl i5 (.int .u8 0) 1 Tryz.underlying25 hi5 hz5 hs5 hb5 rfl (by decide) rfl rfl rfl (Sl.toW (Bs.sl (h3.mono a0)) (b6).sat) ByC.one (Nat.le_refl _) b6.gr.below.size (by unfold maxLen; simp only [List.length_cons, List.length_append, List.length_nil]; omega) (by simp only [List.length_cons, List.length_append, List.length_nil]; omega) ?_
    intro f5 k3 e0 f6
    refine dy ?_
    refine wlK a7 ?_
    rw [show (((b8 k :: gH (aX k) r i) ++ [(b8 r.value.length)]) ++ r.value) = b8 k :: gH (aX k) r (i + 1) from by rw [qK r he, h4]; simp [Rq.part]] at e0
    refine aB ?_
    refine cN (i + 1) ?_
    refine dx ?_
    simp only [pq]
    refine aG ?_
    exact a6 _ _ _ (by omega) ⟨(i + 1), f5, a9, _, rfl, rfl, rfl, e0, a0, (by omega)⟩
   ·have he : (aX k).testBit i = false := by simpa using he
    have hx := sJ he
    have hpl := iT ok i (by omega)
    refine aB ?_
    refine dx ?_
    refine dr (.slice x3 r.value.length y3) (eL (i := i) Tryz.underlying91 (iC _) rfl rfl (by omega) (bC _) (by rw [h4]; rfl)) ?_
    refine aC ?_
    refine wlK a8 ?_
    refine sk fun k4 d0 => ?_
    refine aC ?_
    refine dr (pP 0 k) (fH (i := k) Tryz.underlying92 (eI _) rfl rfl (by omega)) ?_
    simp only [pq]
    refine dr _ (aD rfl (aR (bL _) (jC (hh.below a5.gr.below) hk))) ?_
    refine dx ?_
    refine dr (nI ((aX k) / 2 ^ i)) (gM (m := (aX k)) (n := i) rfl rfl (by omega)) ?_
    simp only [pq]
    refine dr (.int .i64 (((((aX k) / 2 ^ i) % 2) : Nat) : Int)) (eM (m := ((aX k) / 2 ^ i)) rfl rfl) ?_
    refine dr bF (cB (m := (((((aX k) / 2 ^ i) % 2) : Nat) : Int)) (n := (1 : Int)) (b := false) rfl rfl (beq_eq_false_iff_ne.2 (by rw [hx]; decide))) ?_
    refine wn d0 ?_
    refine aF ?_
    refine aH ?_
    refine a7 _ _ ?_
    rw [← tC r he] at a5
    refine aB ?_
    refine cN (i + 1) ?_
    refine dx ?_
    simp only [pq]
    refine aG ?_
    exact a6 _ _ _ (by omega) ⟨(i + 1), v, a9, _, rfl, rfl, rfl, a5, a0, (by omega)⟩
 ·refine eR ?_
  refine wn b2 ?_
  refine aE fun k5 f7 => ?_
  refine aF ?_
  refine cQ ?_
  refine c0 _ _ ?_
  refine sk fun k6 d1 => ?_
  refine aC ?_
  refine wn d1 ?_
  refine aN ?_
  try simp only [xt]
  refine bR (cA rfl (gD rfl) (gD rfl)) ?_
  ·have hi5 : i = 4 := by omega
   subst hi5
   rw [MB] at a5
   obtain ⟨k7, f8, f9, b0⟩ := St.freeze a5 (i := 0) rfl (Nat.le_refl _)
   have b0 : Bys _ v (b8 k :: EA (aX k) r) := b0
   exact ⟨_, _, rfl, f8.gr, _, rfl, dS b0⟩
end Go.Proofs.YtilgpdpooildcaaGreatDoor
