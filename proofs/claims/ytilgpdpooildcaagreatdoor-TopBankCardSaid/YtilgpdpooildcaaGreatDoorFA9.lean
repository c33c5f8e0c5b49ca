/- Rules, plain laws and walks: TP7 TP8 W1 W2 W3 PW WQ1 -/
import Derived.Test.YtilgpdpooildcaaGreatDoorFA2
import Derived.Test.YtilgpdpooildcaaGreatDoorFA3
import Derived.Test.YtilgpdpooildcaaGreatDoorFA5
import Derived.Test.YtilgpdpooildcaaGreatDoorFA8
import Derived.Test.YtilgpdpooildcaaGreatDoorFA7
import Derived.Test.YtilgpdpooildcaaGreatDoorFA1
namespace Go.Proofs.YtilgpdpooildcaaGreatDoor
set_option maxHeartbeats 8000000
open Go.RowKit
set_option maxRecDepth 100000
set_option linter.unusedVariables false
set_option linter.unusedSimpArgs false
theorem Fg (a b : UInt8) : ((a.toNat : Int) != (b.toNat : Int)) = (a != b) := by
 by_cases h : a = b
 ·subst h; simp
 ·have : (a.toNat : Int) ≠ (b.toNat : Int) := fun e => h (UInt8.toNat_inj.1 (by omega))
  rw [bne_iff_ne.2 this, bne_iff_ne.2 h]
theorem SL {l m : By} {k : Nat} {x y : UInt8} (h : l.take k = m.take k) (hx : l[k]? = some x) (hy : m[k]? = some y) (e : (x != y) = false) : l.take (k + 1) = m.take (k + 1) := by
 rw [fL hx, fL hy, h, bne_eq_false_iff_eq.1 e]
theorem OA {l m : By} {k : Nat} (h : l.take k = m.take k) (h1 : l.length ≤ k) (h2 : m.length ≤ k) : l = m := by
 rwa [List.take_of_length_le h1, List.take_of_length_le h2] at h
theorem SM {l m : By} {k : Nat} {x y : UInt8} (hx : l[k]? = some x) (hy : m[k]? = some y) (e : (x != y) = true) : l ≠ m := fun h => by
  subst h; rw [hx] at hy; cases hy; simp at e
theorem qF (F : Fz) (w : World) (v u : Value) (l m : By) (hs : Sat w F) (hv : Bs F v l) (hu : Bs F u m) :
    Calls Tryz.prog 97 #[v, u] w (cY w (.bool (l == m))) := by
 obtain ⟨x, y, rfl, q1, q2⟩ := hv.shape
 obtain ⟨z, q, rfl, q3, q4⟩ := hu.shape
 unfold maxLen at q2 q4
 have S := St.start hs
 go_enter Tryz.func97, Tryz.ntmps97
 refine sk fun K1 hK1 => ?_
 refine dy ?_
 refine wn hK1 ?_
 refine aF fun K2 hK2 => ?_
 refine sk fun K3 hK3 => ?_
 refine aC ?_
 by_cases a3 : l.length = m.length
 refine lQ ?_
 refine wn hK3 ?_
 refine aG ?_
 refine aI ?_
 refine hK2 _ _ ?_
 refine aF fun K4 hK4 => ?_
 refine sk fun K5 hK5 => ?_
 refine aC ?_
 refine wn hK5 ?_
 refine aM ?_
 refine aW (fun mm aa w7 => ∃ (k : Nat) (u6 : Nat → Value), mm = l.length - k ∧ u6 = dY aa ∧ aa = ⟨([(.slice x l.length y), (.slice z m.length q), undef, undef, (u6 4), (u6 5), (.slice x l.length y), (nI l.length), (.slice z m.length q), (nI m.length), bF, (.slice x l.length y), (nI l.length), (nI k)] ++ (usF u6 14 12 [])).toArray, []⟩ ∧ St w F w7 F [] [] ∧ (k ≤ l.length) ∧ (l.take k = m.take k)) _ ⟨0, _, rfl, rfl, rfl, S, (by omega), rfl⟩ ?_
 rintro m8 a9 c8 ⟨k, u6, rfl, -, hfr, a2, hk, hkk⟩ c9 a4
 simp only [uzF, Nat.reduceAdd] at hfr; subst hfr
 refine sk fun d0 a1 => ?_
 by_cases a5 : k < l.length
 refine fA ?_
 refine wn a1 ?_
 refine aF fun d1 a6 => ?_
 refine aK ?_
 refine aI ?_
 refine a6 _ _ ?_
 refine aF fun d2 a7 => ?_
 refine aM ?_
 refine sk fun d3 a8 => ?_
 refine aC ?_
 refine wn a8 ?_
 refine aF fun d4 b0 => ?_
 obtain ⟨x1, hx1⟩ : ∃ p, l[k]? = some p := ⟨l[k], List.getElem?_eq_getElem a5⟩
 obtain ⟨y1, hy1⟩ : ∃ p, m[k]? = some p := ⟨m[k]'(by omega), List.getElem?_eq_getElem (by omega)⟩
 obtain ⟨c1, c2, b1, c3⟩ := Bs.get hv hx1
 obtain ⟨c4, c5, b2, c6⟩ := Bs.get hu hy1
 refine aQ F 8 [] (by kernel_rfl) (by kernel_rfl) ?_
 simp only [cV]
 iterate 2 refine gm ?_
 refine gv (pP c1 (c2 + k * 1)) (fun _ _ => bK (i := k) (sz := 1) Tryz.underlying25 (aV _) rfl b1 rfl (by omega) rfl) ?_
 simp only [pq]
 refine gv _ (fun _ b3 => aE rfl (aT (fG _) (St.fz (St.tells a2 b3) c3))) ?_
 iterate 2 refine gm ?_
 simp only [pq]
 refine gv (pP c4 (c5 + k * 1)) (fun _ _ => bK (i := k) (sz := 1) Tryz.underlying25 (aV _) rfl b2 rfl (by omega) rfl) ?_
 refine gv _ (fun _ b3 => aE rfl (aT (fG _) (St.fz (St.tells a2 b3) c6))) ?_
 refine bN ?_
 intro d5 b4 b5
 clear b5
 have c0 := St.tells a2 b4
 simp only [cW]
 refine dr (.bool (x1 != y1)) (cC (k := .u8) rfl rfl (Fg x1 y1)) ?_
 simp only [pq]
 refine wlK b0 ?_
 refine wp_cond_split rfl (fun a0 => ?_) (fun a0 => ?_)
 refine sk fun d6 b6 => ?_
 refine dy ?_
 refine wn b6 ?_
 refine aO ?_
 try simp only [xt]
 refine bR (bC rfl (gD rfl)) ?_
 have hb : (l == m) = false := by have := SM hx1 hy1 a0; simp [this]
 rw [hb]
 exact ⟨rfl, c0.gr.below⟩
 refine aI ?_
 refine a7 _ _ ?_
 refine aB ?_
 refine cD (k + 1) ?_
 refine dx ?_
 simp only [pq]
 refine aH ?_
 exact a4 _ _ _ (by omega) ⟨(k + 1), _, rfl, rfl, rfl, c0, (by omega), (SL hkk hx1 hy1 a0)⟩
 refine eM ?_
 refine wn a1 ?_
 refine aF fun d7 c7 => ?_
 refine aG ?_
 refine cS ?_
 refine hK4 _ _ ?_
 refine sk fun d8 b7 => ?_
 refine dy ?_
 refine wn b7 ?_
 refine aO ?_
 try simp only [xt]
 refine bR (bC rfl (gD rfl)) ?_
 have hb : (l == m) = true := by have := OA hkk (by omega) (by omega); rw [this]; simp
 rw [hb]
 exact ⟨rfl, a2.gr.below⟩
 refine mS ?_
 simp only [pq]
 refine wn hK3 ?_
 refine aK ?_
 refine sk fun d9 b9 => ?_
 refine dy ?_
 refine wn b9 ?_
 refine aO ?_
 try simp only [xt]
 refine bR (bC rfl (gD rfl)) ?_
 have hb : (l == m) = false := by have : l ≠ m := fun e => a3 (by rw [e]); simp [this]
 rw [hb]
 exact ⟨rfl, S.gr.below⟩
theorem SN {r : By} {k n : Nat} {x y : UInt8} (h0 : r[0]? = some x) (h1 : r[1]? = some y) (hn : 2 + x.toNat * 256 + y.toNat = n) :
    jS r k = if 4000 < n ∨ r.length < n + 4 then none else if (mQ (r.take n)).take 4 ≠ (r.drop n).take 4 then none else if uX ((r.take n).drop 2) ≠ 0 ∨ (sS ((r.take n).drop 2)).turn ≠ k + 1 then none else some (sS ((r.take n).drop 2), n + 4) := by
 have e0 : r.getD 0 0 = x := by rw [List.getD_eq_getElem?_getD, h0]; rfl
 have e1 : r.getD 1 0 = y := by rw [List.getD_eq_getElem?_getD, h1]; rfl
 have hl : ¬ r.length < 2 := by obtain ⟨h, _⟩ := List.getElem?_eq_some_iff.1 h1; omega
 unfold jS
 rw [if_neg hl, e0, e1, hn]
theorem tW {d : By} {out : List Cm} {at_ f : Nat} {r : By} (h : (out ++ (rQ f r out.length).1, at_ + (rQ f r out.length).2) = iH d) (hc : jS r out.length = none) : iH d = (out, at_) := by
 rw [FB hc] at h
 simpa using h.symm
theorem WS {d : By} {out : List Cm} {at_ f n : Nat} {m : Cm} (h : (out ++ (rQ (f + 1) (d.drop at_) out.length).1, at_ + (rQ (f + 1) (d.drop at_) out.length).2) = iH d) (hc : jS (d.drop at_) out.length = some (m, n)) :
    ((out ++ [m]) ++ (rQ f (d.drop (at_ + n)) (out ++ [m]).length).1, (at_ + n) + (rQ f (d.drop (at_ + n)) (out ++ [m]).length).2) = iH d := by
 rw [FC hc] at h
 simp only [List.drop_drop] at h
 rw [← h, List.length_append, List.append_assoc, Nat.add_assoc]
 rfl
theorem Bs.mid {F : Fz} {a : Option Addr} {m c n i : Nat} {l : By} (h : Bs F (.slice a m c) l) (h1 : i ≤ n) (hn : n ≤ m) : Bs F (.slice (if c = i then a else a.map (·.add (i * 1))) (n - i) (c - i)) ((l.take n).drop i) := eA (Sl.cut2 (by decide) h.sl h1 hn)
theorem DF (F : Fz) (w : World) (v : Value) (t : Tp) (hs : Sat w F) (hT : Tabs w) (hv : TpV F v t) (ok : TpOk 100000 t) :
    Calls Tryz.prog 84 #[v] w fun e w' => ∃ v a c F', e = .returned (.tuple #[v, .agg #[.slice a (iH t.data).2 c, .int .i64 ((min t.synced (iH t.data).2 : Nat))], .int .i64 0]) ∧ Gr w F w' F' ∧ Own 2 CmC 168 w.heap.size w' F' v (iH t.data).1 ∧ Bs F' (.slice a (iH t.data).2 c) (t.data.take (iH t.data).2) := by
 obtain ⟨x, y, rfl, hv⟩ := hv
 have h1' := ok.len
 have h2' := ok.syn
 obtain ⟨i5, hi5, hz5, hs5, hb5⟩ := info_parts qH
 obtain ⟨i9, e4, e5, e6, e7⟩ := info_parts IY
 have S := St.start hs
 go_enter Tryz.func84, Tryz.ntmps84
 refine sk fun K1 hK1 => ?_
 refine aZ S (v := fun n => .pointer (aA n 0)) rfl (bW (v := (.agg #[(.slice x t.data.length y), (nI t.synced)])) rfl) (fun n2 w3 S4 => ?_)
 refine dy ?_
 refine sA S4 (jF _) fun n5 w6 S7 => ?_
 refine dy ?_
 simp only [pq]
 refine wn hK1 ?_
 refine sk fun K8 hK8 => ?_
 refine dR S7 1 Tryz.underlying108 (bL) ?_
 refine tU S7 rfl (fn1 (GX _ _)) (tV _ _ _ t (S7).sat ⟨_, _, rfl, hv⟩ ok) ?_
 intro v9 t7 t8 m8 n7
 simp only [pq]
 obtain ⟨a2, a1, rfl, t9, n8⟩ := (m8.own (i := 0) rfl).shape
 unfold maxLen at n8
 refine dx ?_
 iterate 2 refine de ?_
 simp only [pq]
 refine sA m8 (jF _) fun c9 u0 n9 => ?_
 refine sW 0 n9 (bL) fun u1 o0 => ?_
 refine dy ?_
 simp only [pq]
 refine wn hK8 ?_
 refine aF fun u2 j0 => ?_
 refine sk fun u3 j1 => ?_
 refine dx ?_
 refine dt ?_
 refine wn j1 ?_
 refine aG ?_
 refine aI ?_
 refine j0 _ _ ?_
 refine aF fun u4 j2 => ?_
 obtain ⟨m9, o1, o2, d7⟩ := St.freeze o0 (i := 0) rfl (Nat.le_refl _)
 have d7 : Bys _ (.slice a2 t.data.length a1) t.data := d7
 have d0 := eA d7
 have hdc : t.data.length ≤ a1 := by obtain ⟨_, _, e, q, _⟩ := d0.shape; simp only [Value.slice.injEq] at e; omega
 refine aB ?_
 refine dy ?_
 simp only [pq]
 refine wlK j2 ?_
 refine sk fun u5 j3 => ?_
 refine dy ?_
 refine wn j3 ?_
 refine aF fun u6 b4 => ?_
 refine aM ?_
 have o3 := St.addNil o1 2 CmC CmC.mono 168 w.heap.size
 refine aW (fun mm aa o4 => ∃ (at_ : Nat) (rv : Value) (out : List Cm) (f_ : Nat) (d8 : Fz) (a0 : Nat → Value), mm = t.data.length - at_ ∧ a0 = dY aa ∧ aa = ⟨#[(.agg #[(.slice x t.data.length y), (nI t.synced)]), (pP n2 0), Zn, (pP n5 0), (iI 0), (pP c9 0), bT, rv, (nI at_), (a0 9), (a0 10), (a0 11), (a0 12), (a0 13), (a0 14), (.tuple #[(.agg #[(.slice a2 t.data.length a1), (nI t.synced)]), bT]), (.agg #[(.slice x t.data.length y), (nI t.synced)]), (.tuple #[(.agg #[(.slice a2 t.data.length a1), (nI t.synced)]), bT]), (.agg #[(.slice a2 t.data.length a1), (nI t.synced)]), bT, bT, bF, undef, (a0 23), (a0 24), (a0 25), (a0 26), (a0 27), (a0 28), (a0 29), (a0 30), (a0 31), (a0 32), (a0 33), (a0 34), (a0 35), (a0 36), (a0 37), (a0 38), (a0 39), (a0 40), (a0 41), (a0 42), (a0 43), (a0 44), (a0 45), (a0 46), (a0 47), (a0 48), (a0 49), (a0 50), (a0 51), (a0 52), (a0 53), (a0 54), (a0 55), (a0 56), (a0 57), (a0 58), (a0 59), (a0 60), (a0 61), (a0 62), (a0 63), (a0 64), (a0 65), (a0 66), (a0 67), (a0 68), (a0 69), (a0 70), (a0 71), (a0 72), (a0 73), (a0 74), (a0 75), (a0 76), (a0 77), (a0 78), (a0 79), (a0 80), (a0 81), (a0 82), (a0 83), (a0 84), (a0 85), (a0 86), (a0 87), (a0 88), (a0 89), (a0 90), undef, undef, undef, undef, undef, undef, undef, undef, undef, undef, undef], []⟩ ∧ St w F o4 d8 [⟨c9, [(.slice a2 t.data.length a1), (nI t.synced)], 108⟩, ⟨n5, [Zn, (iI 0)], 108⟩, ⟨n2, [(.slice x t.data.length y), (nI t.synced)], 108⟩] [bV 2 CmC CmC.mono 168 w.heap.size rv out] ∧ Le m9 d8 ∧ (at_ ≤ t.data.length) ∧ ((out ++ (rQ f_ (t.data.drop at_) out.length).1, at_ + (rQ f_ (t.data.drop at_) out.length).2) = iH t.data) ∧ (t.data.length - at_ ≤ f_) ∧ (6 * out.length ≤ at_)) _ ⟨0, Zn, [], t.data.length, m9, _, rfl, rfl, rfl, o3, Le.refl _, (Nat.zero_le _), (by unfold iH; simp), (by omega), (by simp)⟩ ?_
 rintro u7 u8 o5 ⟨at_, rv, out, f_, d8, a0, rfl, -, rfl, e8, a9, hat, hinv, hf, hol⟩ u9 j4
 refine aM ?_
 refine sk fun v0 j5 => ?_
 refine df (jX _ _) ?_
 refine dl (bD _) e8 0 ?_
 refine dx ?_
 simp only [pq]
 have hrest : Bs _ (.slice (if a1 = at_ then a2 else a2.map (·.add (at_ * 1))) (t.data.length - at_) (a1 - at_)) (t.data.drop at_) := Bs.rest (d0.mono a9) (by omega)
 refine dr (.slice (if a1 = at_ then a2 else a2.map (·.add (at_ * 1))) (t.data.length - at_) (a1 - at_)) (bA (l := at_) (h := t.data.length) (sz := 1) Tryz.underlying25 rfl (aV _) (.inr ⟨_, rfl, rfl⟩) (.inl ⟨rfl, rfl⟩) (by omega) (by omega) (rfl)) ?_
 refine dy ?_
 refine wn j5 ?_
 refine aF fun v1 j6 => ?_
 refine aF fun v2 e9 => ?_
 obtain ⟨rest, hre⟩ : ∃ r, r = t.data.drop at_ := ⟨_, rfl⟩
 rw [← hre] at hrest
 have hrl : rest.length = (t.data.length - at_) := by rw [hre, List.length_drop]
 obtain ⟨ra, hra⟩ : ∃ a, (if a1 = at_ then a2 else a2.map (·.add (at_ * 1))) = a := ⟨_, rfl⟩
 obtain ⟨rn, hrn⟩ : ∃ a, (t.data.length - at_) = a := ⟨_, rfl⟩
 obtain ⟨rc, hrc⟩ : ∃ a, (a1 - at_) = a := ⟨_, rfl⟩
 rw [hra, hrn, hrc] at hrest
 rw [hra, hrn, hrc]
 have hcc : rn ≤ rc := by omega
 refine aB ?_
 refine dx ?_
 refine dn Tryz.underlying25 ?_
 simp only [pq]
 by_cases o6 : rn < 2
 ·refine fA ?_
  refine wlK e9 ?_
  refine aK ?_
  refine cS ?_
  refine b4 _ _ ?_
  refine aF fun v3 j7 => ?_
  have hrt := tW hinv (by rw [← hre]; unfold jS; rw [if_pos (by omega)])
  have o7 : Bs _ (.slice a2 at_ at_) (t.data.take at_) := Bs.cut (d0.mono a9) hat
  obtain ⟨o8, j8, f0⟩ := St.freezeBlk e8 (i := 0) rfl
  generalize addF d8 o5 c9 = v4 at *
  refine iG o8 (by kernel_rfl) (fun v5 b5 => ?_)
  refine eD 0 rfl b5.sat ?_
  simp only [pq]
  refine bM 1 rfl _ b5.sat (fun _ _ => ef (jX _ _)) ?_
  simp only [pq]
  refine bM 2 rfl _ b5.sat (fun _ j9 => aE rfl (aT (bD _) (St.fz (St.start j9) (f0 0 _ rfl)))) ?_
  simp only [pq]
  refine eD 3 rfl b5.sat ?_
  simp only [pq]
  refine eD 4 rfl b5.sat ?_
  simp only [pq]
  refine bM 5 rfl (.slice a2 at_ at_) b5.sat (fun _ _ => iK (h := at_) (m := at_) (sz := 1) Tryz.underlying25 rfl (aV _) rfl rfl (by omega) (by omega) rfl) ?_
  simp only [pq]
  refine bM 6 rfl _ b5.sat (fun _ _ => ef (mG _ _)) ?_
  simp only [pq]
  refine bM 7 rfl _ b5.sat (fun _ k0 => aE rfl (aT (bU _) (St.fz (St.start k0) (f0 1 _ rfl)))) ?_
  simp only [pq]
  refine eD 8 rfl b5.sat ?_
  simp only [pq]
  refine gA 11 rfl b5.sat ?_
  simp only [pq]
  refine dQ 9 (by kernel_rfl) rfl ?_
  refine dr (nI (min t.synced at_)) (uN (m := ((t.synced : Nat) : Int)) (n := ((at_ : Nat) : Int)) (r := (((min t.synced at_) : Nat) : Int)) rfl rfl (by omega)) ?_
  refine aH (dB b5.sat ?_)
  refine bM 10 rfl (.agg #[(.slice a2 at_ at_), (nI (min t.synced at_))]) b5.sat (fun _ _ => aJ (ps := #[(0, (.slice a2 at_ at_)), (1, (nI (min t.synced at_)))]) (eZ rfl rfl) (by kernel_rfl)) ?_
  simp only [pq]
  refine dQ 12 (by kernel_rfl) rfl ?_
  refine sW 0 b5 (bL) fun v6 f1 => ?_
  refine aH (dB f1.sat ?_)
  refine gA 13 rfl f1.sat ?_
  simp only [pq]
  refine jP (by kernel_rfl) ?_
  refine j7 _ _ ?_
  refine aO ?_
  try simp only [xt]
  refine bR (tH rfl (gD rfl) ⟨_, rfl, lR f1 0 Tryz.underlying108 (bL)⟩ (gD rfl)) ?_
  ·refine ⟨_, _, _, _, by rw [hrt]; try rfl, f1.gr, by rw [hrt]; exact f1.own (i := 0) rfl, by rw [hrt]; exact (o7.mono j8)⟩
 ·refine eM ?_
  refine wlK e9 ?_
  refine aG ?_
  refine aI ?_
  refine j6 _ _ ?_
  refine aF fun v7 k1 => ?_
  obtain ⟨b0, hb0⟩ : ∃ p, rest[0]? = some p := ⟨rest[0], List.getElem?_eq_getElem (by omega)⟩
  obtain ⟨b1, hb1⟩ : ∃ p, rest[1]? = some p := ⟨rest[1], List.getElem?_eq_getElem (by omega)⟩
  have hb0l := UInt8.toNat_lt b0
  have hb1l := UInt8.toNat_lt b1
  obtain ⟨n0, n1, d9, o9⟩ := Bs.get hrest hb0
  obtain ⟨v8, w0, k2, n3⟩ := Bs.get hrest hb1
  have hq_ := k2.symm.trans d9; injection hq_ with hq_; injection hq_ with hq1_ hq2_; rw [hq1_, hq2_] at n3
  refine aQ d8 10 [] (by kernel_rfl) (by kernel_rfl) ?_
  simp only [cV]
  refine gm ?_
  refine gv (pP n0 (n1 + 0 * 1)) (fun _ _ => bK (i := 0) (sz := 1) Tryz.underlying25 (aV _) rfl d9 rfl (by omega) rfl) ?_
  simp only [pq]
  refine gv _ (fun _ k3 => aE rfl (aT (fG _) (St.fz (St.tells e8 k3) o9))) ?_
  refine gv (nI b0.toNat) (fun _ _ => aX (v := (bv b0)) rfl (gB b0 _)) ?_
  refine gv (nI (b0.toNat * 256)) (fun _ _ => HR (m := b0.toNat) (n := 8) (r := b0.toNat * 256) rfl rfl (by decide) rfl (by omega)) ?_
  simp only [pq]
  refine gv (nI (2 + (b0.toNat * 256))) (fun _ _ => fW (m := (2 : Int)) (n := (((b0.toNat * 256) : Nat) : Int)) (r := (((2 + (b0.toNat * 256)) : Nat) : Int)) rfl rfl (by omega) (by omega) (by omega)) ?_
  refine gm ?_
  refine gv (pP n0 (n1 + 1 * 1)) (fun _ _ => bK (i := 1) (sz := 1) Tryz.underlying25 (aV _) rfl d9 rfl (by omega) rfl) ?_
  simp only [pq]
  refine gv _ (fun _ k3 => aE rfl (aT (fG _) (St.fz (St.tells e8 k3) n3))) ?_
  refine gv (nI b1.toNat) (fun _ _ => aX (v := (bv b1)) rfl (gB b1 _)) ?_
  refine bN ?_
  intro n4 k4 k5
  clear k5
  have f2 := St.tells e8 k4
  simp only [cW]
  refine cD ((((2 + (b0.toNat * 256)) + b1.toNat) : Nat) : Int) ?_
  refine dy ?_
  simp only [pq]
  refine wlK k1 ?_
  refine aF fun w1 k6 => ?_
  refine aF fun w2 e0 => ?_
  obtain ⟨n, hN⟩ : ∃ n, ((2 + (b0.toNat * 256)) + b1.toNat) = n := ⟨_, rfl⟩
  rw [hN]
  have hcn := SN (k := out.length) hb0 hb1 (n := n) (by omega)
  refine aB ?_
  refine dx ?_
  simp only [pq]
  by_cases p0 : 4000 < n
  ·refine pR ?_
   refine dx ?_
   refine nO ?_
   simp only [pq]
   iterate 3 refine nO ?_
   simp only [pq]
   refine nO ?_
   refine dp ?_
   refine wlK e0 ?_
   refine aK ?_
   refine cS ?_
   refine b4 _ _ ?_
   refine aF fun w4 k7 => ?_
   have hrt := tW hinv (by rw [← hre, hcn, if_pos (by omega)])
   have p1 : Bs _ (.slice a2 at_ at_) (t.data.take at_) := Bs.cut (d0.mono a9) hat
   obtain ⟨p2, k8, d1⟩ := St.freezeBlk f2 (i := 0) rfl
   generalize addF d8 n4 c9 = p3 at *
   refine iG p2 (by kernel_rfl) (fun p4 a3 => ?_)
   refine eD 0 rfl a3.sat ?_
   simp only [pq]
   refine bM 1 rfl _ a3.sat (fun _ _ => ef (jX _ _)) ?_
   simp only [pq]
   refine bM 2 rfl _ a3.sat (fun _ f3 => aE rfl (aT (bD _) (St.fz (St.start f3) (d1 0 _ rfl)))) ?_
   simp only [pq]
   refine eD 3 rfl a3.sat ?_
   simp only [pq]
   refine eD 4 rfl a3.sat ?_
   simp only [pq]
   refine bM 5 rfl (.slice a2 at_ at_) a3.sat (fun _ _ => iK (h := at_) (m := at_) (sz := 1) Tryz.underlying25 rfl (aV _) rfl rfl (by omega) (by omega) rfl) ?_
   simp only [pq]
   refine bM 6 rfl _ a3.sat (fun _ _ => ef (mG _ _)) ?_
   simp only [pq]
   refine bM 7 rfl _ a3.sat (fun _ f4 => aE rfl (aT (bU _) (St.fz (St.start f4) (d1 1 _ rfl)))) ?_
   simp only [pq]
   refine eD 8 rfl a3.sat ?_
   simp only [pq]
   refine gA 11 rfl a3.sat ?_
   simp only [pq]
   refine dQ 9 (by kernel_rfl) rfl ?_
   refine dr (nI (min t.synced at_)) (uN (m := ((t.synced : Nat) : Int)) (n := ((at_ : Nat) : Int)) (r := (((min t.synced at_) : Nat) : Int)) rfl rfl (by omega)) ?_
   refine aH (dB a3.sat ?_)
   refine bM 10 rfl (.agg #[(.slice a2 at_ at_), (nI (min t.synced at_))]) a3.sat (fun _ _ => aJ (ps := #[(0, (.slice a2 at_ at_)), (1, (nI (min t.synced at_)))]) (eZ rfl rfl) (by kernel_rfl)) ?_
   simp only [pq]
   refine dQ 12 (by kernel_rfl) rfl ?_
   refine sW 0 a3 (bL) fun p5 b7 => ?_
   refine aH (dB b7.sat ?_)
   refine gA 13 rfl b7.sat ?_
   simp only [pq]
   refine jP (by kernel_rfl) ?_
   refine k7 _ _ ?_
   refine aO ?_
   try simp only [xt]
   refine bR (tH rfl (gD rfl) ⟨_, rfl, lR b7 0 Tryz.underlying108 (bL)⟩ (gD rfl)) ?_
   ·refine ⟨_, _, _, _, by rw [hrt]; try rfl, b7.gr, by rw [hrt]; exact b7.own (i := 0) rfl, by rw [hrt]; exact (p1.mono k8)⟩
  ·refine lF ?_
   iterate 2 refine dx ?_
   simp only [pq]
   refine dn Tryz.underlying25 ?_
   refine dx ?_
   refine cD (n + 4) ?_
   simp only [pq]
   by_cases p6 : rn < (n + 4)
   ·refine fA ?_
    refine dp ?_
    refine wlK e0 ?_
    refine aK ?_
    refine cS ?_
    refine b4 _ _ ?_
    refine aF fun p7 f5 => ?_
    have hrt := tW hinv (by rw [← hre, hcn, if_pos (by omega)])
    have k9 : Bs _ (.slice a2 at_ at_) (t.data.take at_) := Bs.cut (d0.mono a9) hat
    obtain ⟨l0, f6, d2⟩ := St.freezeBlk f2 (i := 0) rfl
    generalize addF d8 n4 c9 = p8 at *
    refine iG l0 (by kernel_rfl) (fun p9 a4 => ?_)
    refine eD 0 rfl a4.sat ?_
    simp only [pq]
    refine bM 1 rfl _ a4.sat (fun _ _ => ef (jX _ _)) ?_
    simp only [pq]
    refine bM 2 rfl _ a4.sat (fun _ f7 => aE rfl (aT (bD _) (St.fz (St.start f7) (d2 0 _ rfl)))) ?_
    simp only [pq]
    refine eD 3 rfl a4.sat ?_
    simp only [pq]
    refine eD 4 rfl a4.sat ?_
    simp only [pq]
    refine bM 5 rfl (.slice a2 at_ at_) a4.sat (fun _ _ => iK (h := at_) (m := at_) (sz := 1) Tryz.underlying25 rfl (aV _) rfl rfl (by omega) (by omega) rfl) ?_
    simp only [pq]
    refine bM 6 rfl _ a4.sat (fun _ _ => ef (mG _ _)) ?_
    simp only [pq]
    refine bM 7 rfl _ a4.sat (fun _ f8 => aE rfl (aT (bU _) (St.fz (St.start f8) (d2 1 _ rfl)))) ?_
    simp only [pq]
    refine eD 8 rfl a4.sat ?_
    simp only [pq]
    refine gA 11 rfl a4.sat ?_
    simp only [pq]
    refine dQ 9 (by kernel_rfl) rfl ?_
    refine dr (nI (min t.synced at_)) (uN (m := ((t.synced : Nat) : Int)) (n := ((at_ : Nat) : Int)) (r := (((min t.synced at_) : Nat) : Int)) rfl rfl (by omega)) ?_
    refine aH (dB a4.sat ?_)
    refine bM 10 rfl (.agg #[(.slice a2 at_ at_), (nI (min t.synced at_))]) a4.sat (fun _ _ => aJ (ps := #[(0, (.slice a2 at_ at_)), (1, (nI (min t.synced at_)))]) (eZ rfl rfl) (by kernel_rfl)) ?_
    simp only [pq]
    refine dQ 12 (by kernel_rfl) rfl ?_
    refine sW 0 a4 (bL) fun q0 b9 => ?_
    refine aH (dB b9.sat ?_)
    refine gA 13 rfl b9.sat ?_
    simp only [pq]
    refine jP (by kernel_rfl) ?_
    refine f5 _ _ ?_
    refine aO ?_
    try simp only [xt]
    refine bR (tH rfl (gD rfl) ⟨_, rfl, lR b9 0 Tryz.underlying108 (bL)⟩ (gD rfl)) ?_
    ·refine ⟨_, _, _, _, by rw [hrt]; try rfl, b9.gr, by rw [hrt]; exact b9.own (i := 0) rfl, by rw [hrt]; exact (k9.mono f6)⟩
   ·refine eM ?_
    refine dp ?_
    refine wlK e0 ?_
    refine aG ?_
    refine aI ?_
    refine k6 _ _ ?_
    refine aF fun q1 f9 => ?_
    rw [if_neg (by omega)] at hcn
    refine aB ?_
    iterate 2 refine dx ?_
    simp only [pq]
    have l1 : Bs _ (.slice ra n rc) (rest.take n) := eA (Sl.takeN (Bs.sl hrest) (by omega))
    refine dr (.slice ra n rc) (bA (l := 0) (h := n) (sz := 1) Tryz.underlying25 rfl (aV _) (.inl ⟨rfl, rfl⟩) (.inr ⟨_, rfl, rfl⟩) (by omega) (by omega) (fE)) ?_
    refine aY f2 rfl (fn1 (VE _ _)) (WN _ _ _ (rest.take n) (f2).sat (hT.at f2.gr.below) l1 (by rw [List.length_take]; omega)) ?_
    intro q2 q3 e1 g0 a8 l2
    obtain ⟨q4, rfl, c0⟩ := l2
    obtain ⟨b3, b2, rfl, _⟩ := c0.shape
    have c0 : Bs _ (.slice b3 (mQ (rest.take n)).length b2) (mQ (rest.take n)) := c0
    refine dx ?_
    iterate 2 refine de ?_
    simp only [pq]
    iterate 2 refine dy ?_
    refine wlK f9 ?_
    refine aF fun q5 g1 => ?_
    refine aF fun q6 d3 => ?_
    have hsl := rU (rest.take n)
    have hsc : (mQ (rest.take n)).length ≤ b2 := by obtain ⟨_, _, e, q, _⟩ := c0.shape; injection e with _ _ e; omega
    have g2 : Bs _ (.slice b3 4 b2) ((mQ (rest.take n)).take 4) := eA (Sl.takeN (Bs.sl c0) (by omega))
    have e2 : Bs _ (.slice (if rc = n then ra else ra.map (·.add (n * 1))) ((n + 4) - n) (rc - n)) ((rest.take (n + 4)).drop n) := Bs.mid (hrest.mono a8) (by omega) (by omega)
    have hdt : (rest.take (n + 4)).drop n = (rest.drop n).take 4 := by rw [List.drop_take, Nat.add_sub_cancel_left]
    rw [hdt] at e2
    by_cases hq : (mQ (rest.take n)).take 4 = (rest.drop n).take 4
    ·rw [if_neg (by simpa using hq)] at hcn
     refine aQ e1 7 [] (by kernel_rfl) (by kernel_rfl) ?_
     simp only [cV]
     refine gm ?_
     simp only [pq]
     refine gv (.slice b3 4 b2) (fun _ _ => bA (l := 0) (h := 4) (sz := 1) Tryz.underlying25 rfl (aV _) (.inl ⟨rfl, rfl⟩) (.inr ⟨_, rfl, rfl⟩) (by omega) (by omega) (fE)) ?_
     iterate 2 refine gm ?_
     simp only [pq]
     refine gm ?_
     refine gv (nI (n + 4)) (fun _ _ => fW (m := ((n : Nat) : Int)) (n := (4 : Int)) (r := (((n + 4) : Nat) : Int)) rfl rfl (by omega) (by omega) (by omega)) ?_
     refine gv (.slice (if rc = n then ra else ra.map (·.add (n * 1))) ((n + 4) - n) (rc - n)) (fun _ _ => bA (l := n) (h := (n + 4)) (sz := 1) Tryz.underlying25 rfl (aV _) (.inr ⟨_, rfl, rfl⟩) (.inr ⟨_, rfl, rfl⟩) (by omega) (by omega) (rfl)) ?_
     simp only [pq]
     refine bN ?_
     intro q7 g3 g4
     clear g4
     have g5 := St.tells g0 g3
     simp only [cW]
     refine aL (v := bT) g5 rfl (fn2 (VF _ _)) (fC (qF _ _ _ _ ((mQ (rest.take n)).take 4) ((rest.drop n).take 4) (g5).sat g2 e2) (beq_iff_eq.2 hq)) (fun q8 g6 => ?_)
     simp only [pq]
     refine dt ?_
     refine wlK d3 ?_
     refine aG ?_
     refine aI ?_
     refine g1 _ _ ?_
     refine aF fun q9 g7 => ?_
     obtain ⟨e, he⟩ : ∃ e, uX ((rest.take n).drop 2) = e := ⟨_, rfl⟩
     obtain ⟨mm, hmm⟩ : ∃ m, sS ((rest.take n).drop 2) = m := ⟨_, rfl⟩
     rw [he, hmm] at hcn
     refine aB ?_
     iterate 2 refine dx ?_
     simp only [pq]
     have l3 : Bs _ (.slice (if rc = 2 then ra else ra.map (·.add (2 * 1))) (n - 2) (rc - 2)) ((rest.take n).drop 2) := Bs.mid (hrest.mono a8) (by omega) (by omega)
     refine dr (.slice (if rc = 2 then ra else ra.map (·.add (2 * 1))) (n - 2) (rc - 2)) (bA (l := 2) (h := n) (sz := 1) Tryz.underlying25 rfl (aV _) (.inr ⟨_, rfl, rfl⟩) (.inr ⟨_, rfl, rfl⟩) (by omega) (by omega) (rfl)) ?_
     refine aY g6 rfl (fn1 (Du _ _)) (DE _ _ _ ((rest.take n).drop 2) (g6).sat l3 (by rw [List.length_drop, List.length_take]; omega) he hmm) ?_
     intro r0 r1 e3 l4 c1 l5
     obtain ⟨_, rfl, c2, c3, rfl, g8⟩ := l5
     refine dx ?_
     iterate 2 refine de ?_
     simp only [pq]
     refine sA l4 (sB _) fun r2 r3 l6 => ?_
     refine sW 0 l6 (eN) fun g9 b6 => ?_
     refine dy ?_
     simp only [pq]
     refine wlK g7 ?_
     refine aF fun r4 h0 => ?_
     refine aF fun r5 c4 => ?_
     obtain ⟨r6, l7, rfl, r7, l8⟩ := (b6.own (i := 0) rfl).shape
     unfold maxLen at l8
     refine aB ?_
     refine dx ?_
     simp only [pq]
     by_cases r8 : e = (0 : Int)
     ·refine lQ ?_
      refine dx ?_
      refine df (IZ _ _) ?_
      simp only [pq]
      refine dl (bU _) b6 0 ?_
      refine dx ?_
      refine dn Tryz.underlying109 ?_
      simp only [pq]
      refine cD (out.length + 1) ?_
      simp only [pq]
      by_cases r9 : mm.turn = (out.length + 1)
      ·refine lQ ?_
       refine dp ?_
       refine wlK c4 ?_
       refine aG ?_
       refine aI ?_
       refine h0 _ _ ?_
       refine aF fun s0 h1 => ?_
       have hch : jS (t.data.drop at_) out.length = some (mm, n + 4) := by rw [← hre, hcn, if_neg (by omega)]
       obtain ⟨g, rfl⟩ : ∃ g, f_ = g + 1 := ⟨f_ - 1, by omega⟩
       refine aB ?_
       refine dx ?_
       refine dR b6 0 Tryz.underlying168 (eN) ?_
       simp only [pq]
       refine aZ b6 (v := fun n => .slice (aA n 0) 1 1) rfl (bS (ps := #[(0, (.agg #[(nI mm.turn), (.slice c2 mm.writes.length c3)]))]) (cells := #[(nI mm.turn), (.slice c2 mm.writes.length c3)]) (E := 168) (cG rfl) (fun w => by kernel_rfl)) (fun s1 s2 h2 => ?_)
       refine eK (i := 0) (r := 0) (p := mm) (cs := [(nI mm.turn), (.slice c2 mm.writes.length c3)]) h2 rfl i9 (.agg #[(iI 0), Zn]) 32 Tryz.underlying109 e4 e5 e6 e7 rfl (by decide) rfl rfl rfl rfl rfl (CmC.oneCell (p := mm) ⟨_, _, rfl, rfl, g8⟩) (⟨_, _, rfl, rfl, g8⟩) (Nat.le_refl _) h2.gr.below.size (by unfold maxLen; omega) (by omega) ?_
       intro l9 s3 c5 n6
       simp only [pq]
       have c5 := St.drop c5 (.cons _ (List.Sublist.refl _))
       refine dy ?_
       refine wlK h1 ?_
       refine aB ?_
       iterate 2 refine dx ?_
       refine cD (n + 4) ?_
       simp only [pq]
       refine cD (at_ + (n + 4)) ?_
       refine dy ?_
       refine aH ?_
       have c5 := St.drop c5 (.cons _ (List.Sublist.refl _))
       exact j4 _ _ _ (by omega) ⟨(at_ + (n + 4)), l9, (out ++ [mm]), g, e3, _, rfl, rfl, rfl, c5, ((a9.trans a8).trans c1), (by omega), (WS hinv hch), (by omega), (by rw [List.length_append]; simp only [List.length_cons, List.length_nil]; omega)⟩
      ·refine mS ?_
       refine dp ?_
       simp only [pq]
       refine wlK c4 ?_
       refine aK ?_
       refine cS ?_
       refine b4 _ _ ?_
       refine aF fun s4 h3 => ?_
       have hrt := tW hinv (by rw [← hre, hcn, if_pos (by omega)])
       have m0 : Bs _ (.slice a2 at_ at_) (t.data.take at_) := Bs.cut (d0.mono ((a9.trans a8).trans c1)) hat
       obtain ⟨m1, h4, d4⟩ := St.freezeBlk b6 (i := 1) rfl
       generalize addF e3 g9 c9 = s5 at *
       refine iG m1 (by kernel_rfl) (fun s6 a5 => ?_)
       refine eD 0 rfl a5.sat ?_
       simp only [pq]
       refine bM 1 rfl _ a5.sat (fun _ _ => ef (jX _ _)) ?_
       simp only [pq]
       refine bM 2 rfl _ a5.sat (fun _ h5 => aE rfl (aT (bD _) (St.fz (St.start h5) (d4 0 _ rfl)))) ?_
       simp only [pq]
       refine eD 3 rfl a5.sat ?_
       simp only [pq]
       refine eD 4 rfl a5.sat ?_
       simp only [pq]
       refine bM 5 rfl (.slice a2 at_ at_) a5.sat (fun _ _ => iK (h := at_) (m := at_) (sz := 1) Tryz.underlying25 rfl (aV _) rfl rfl (by omega) (by omega) rfl) ?_
       simp only [pq]
       refine bM 6 rfl _ a5.sat (fun _ _ => ef (mG _ _)) ?_
       simp only [pq]
       refine bM 7 rfl _ a5.sat (fun _ h6 => aE rfl (aT (bU _) (St.fz (St.start h6) (d4 1 _ rfl)))) ?_
       simp only [pq]
       refine eD 8 rfl a5.sat ?_
       simp only [pq]
       refine gA 11 rfl a5.sat ?_
       simp only [pq]
       refine dQ 9 (by kernel_rfl) rfl ?_
       refine dr (nI (min t.synced at_)) (uN (m := ((t.synced : Nat) : Int)) (n := ((at_ : Nat) : Int)) (r := (((min t.synced at_) : Nat) : Int)) rfl rfl (by omega)) ?_
       refine aH (dB a5.sat ?_)
       refine bM 10 rfl (.agg #[(.slice a2 at_ at_), (nI (min t.synced at_))]) a5.sat (fun _ _ => aJ (ps := #[(0, (.slice a2 at_ at_)), (1, (nI (min t.synced at_)))]) (eZ rfl rfl) (by kernel_rfl)) ?_
       simp only [pq]
       refine dQ 12 (by kernel_rfl) rfl ?_
       refine sW 1 a5 (bL) fun s7 c6 => ?_
       refine aH (dB c6.sat ?_)
       refine gA 13 rfl c6.sat ?_
       simp only [pq]
       refine jP (by kernel_rfl) ?_
       refine h3 _ _ ?_
       refine aO ?_
       try simp only [xt]
       refine bR (tH rfl (gD rfl) ⟨_, rfl, lR c6 1 Tryz.underlying108 (bL)⟩ (gD rfl)) ?_
       ·refine ⟨_, _, _, _, by rw [hrt]; try rfl, c6.gr, by rw [hrt]; exact c6.own (i := 0) rfl, by rw [hrt]; exact (m0.mono h4)⟩
     ·refine mS ?_
      refine dx ?_
      refine nO ?_
      simp only [pq]
      iterate 3 refine nO ?_
      simp only [pq]
      iterate 2 refine nO ?_
      refine dp ?_
      simp only [pq]
      refine wlK c4 ?_
      refine aK ?_
      refine cS ?_
      refine b4 _ _ ?_
      refine aF fun s8 h7 => ?_
      have hrt := tW hinv (by rw [← hre, hcn, if_pos (by omega)])
      have m2 : Bs _ (.slice a2 at_ at_) (t.data.take at_) := Bs.cut (d0.mono ((a9.trans a8).trans c1)) hat
      obtain ⟨m3, h8, d5⟩ := St.freezeBlk b6 (i := 1) rfl
      generalize addF e3 g9 c9 = s9 at *
      refine iG m3 (by kernel_rfl) (fun t0 a6 => ?_)
      refine eD 0 rfl a6.sat ?_
      simp only [pq]
      refine bM 1 rfl _ a6.sat (fun _ _ => ef (jX _ _)) ?_
      simp only [pq]
      refine bM 2 rfl _ a6.sat (fun _ h9 => aE rfl (aT (bD _) (St.fz (St.start h9) (d5 0 _ rfl)))) ?_
      simp only [pq]
      refine eD 3 rfl a6.sat ?_
      simp only [pq]
      refine eD 4 rfl a6.sat ?_
      simp only [pq]
      refine bM 5 rfl (.slice a2 at_ at_) a6.sat (fun _ _ => iK (h := at_) (m := at_) (sz := 1) Tryz.underlying25 rfl (aV _) rfl rfl (by omega) (by omega) rfl) ?_
      simp only [pq]
      refine bM 6 rfl _ a6.sat (fun _ _ => ef (mG _ _)) ?_
      simp only [pq]
      refine bM 7 rfl _ a6.sat (fun _ i0 => aE rfl (aT (bU _) (St.fz (St.start i0) (d5 1 _ rfl)))) ?_
      simp only [pq]
      refine eD 8 rfl a6.sat ?_
      simp only [pq]
      refine gA 11 rfl a6.sat ?_
      simp only [pq]
      refine dQ 9 (by kernel_rfl) rfl ?_
      refine dr (nI (min t.synced at_)) (uN (m := ((t.synced : Nat) : Int)) (n := ((at_ : Nat) : Int)) (r := (((min t.synced at_) : Nat) : Int)) rfl rfl (by omega)) ?_
      refine aH (dB a6.sat ?_)
      refine bM 10 rfl (.agg #[(.slice a2 at_ at_), (nI (min t.synced at_))]) a6.sat (fun _ _ => aJ (ps := #[(0, (.slice a2 at_ at_)), (1, (nI (min t.synced at_)))]) (eZ rfl rfl) (by kernel_rfl)) ?_
      simp only [pq]
      refine dQ 12 (by kernel_rfl) rfl ?_
      refine sW 1 a6 (bL) fun t1 c7 => ?_
      refine aH (dB c7.sat ?_)
      refine gA 13 rfl c7.sat ?_
      simp only [pq]
      refine jP (by kernel_rfl) ?_
      refine h7 _ _ ?_
      refine aO ?_
      try simp only [xt]
      refine bR (tH rfl (gD rfl) ⟨_, rfl, lR c7 1 Tryz.underlying108 (bL)⟩ (gD rfl)) ?_
      ·refine ⟨_, _, _, _, by rw [hrt]; try rfl, c7.gr, by rw [hrt]; exact c7.own (i := 0) rfl, by rw [hrt]; exact (m2.mono h8)⟩
    ·rw [if_pos hq] at hcn
     refine aQ e1 7 [] (by kernel_rfl) (by kernel_rfl) ?_
     simp only [cV]
     refine gm ?_
     refine gv (.slice b3 4 b2) (fun _ _ => bA (l := 0) (h := 4) (sz := 1) Tryz.underlying25 rfl (aV _) (.inl ⟨rfl, rfl⟩) (.inr ⟨_, rfl, rfl⟩) (by omega) (by omega) (fE)) ?_
     refine gm ?_
     simp only [pq]
     iterate 2 refine gm ?_
     refine gv (nI (n + 4)) (fun _ _ => fW (m := ((n : Nat) : Int)) (n := (4 : Int)) (r := (((n + 4) : Nat) : Int)) rfl rfl (by omega) (by omega) (by omega)) ?_
     simp only [pq]
     refine gv (.slice (if rc = n then ra else ra.map (·.add (n * 1))) ((n + 4) - n) (rc - n)) (fun _ _ => bA (l := n) (h := (n + 4)) (sz := 1) Tryz.underlying25 rfl (aV _) (.inr ⟨_, rfl, rfl⟩) (.inr ⟨_, rfl, rfl⟩) (by omega) (by omega) (rfl)) ?_
     refine bN ?_
     intro t2 i1 i2
     clear i2
     have i3 := St.tells g0 i1
     simp only [cW]
     refine aL (v := bF) i3 rfl (fn2 (VF _ _)) (fC (qF _ _ _ _ ((mQ (rest.take n)).take 4) ((rest.drop n).take 4) (i3).sat g2 e2) (beq_eq_false_iff_ne.2 hq)) (fun m4 m5 => ?_)
     simp only [pq]
     refine dt ?_
     refine wlK d3 ?_
     refine aK ?_
     refine cS ?_
     refine b4 _ _ ?_
     refine aF fun t3 i4 => ?_
     have hrt := tW hinv (by rw [← hre]; exact hcn)
     have m6 : Bs _ (.slice a2 at_ at_) (t.data.take at_) := Bs.cut (d0.mono (a9.trans a8)) hat
     obtain ⟨m7, i6, d6⟩ := St.freezeBlk m5 (i := 0) rfl
     generalize addF e1 m4 c9 = t4 at *
     refine iG m7 (by kernel_rfl) (fun t5 a7 => ?_)
     refine eD 0 rfl a7.sat ?_
     simp only [pq]
     refine bM 1 rfl _ a7.sat (fun _ _ => ef (jX _ _)) ?_
     simp only [pq]
     refine bM 2 rfl _ a7.sat (fun _ i7 => aE rfl (aT (bD _) (St.fz (St.start i7) (d6 0 _ rfl)))) ?_
     simp only [pq]
     refine eD 3 rfl a7.sat ?_
     simp only [pq]
     refine eD 4 rfl a7.sat ?_
     simp only [pq]
     refine bM 5 rfl (.slice a2 at_ at_) a7.sat (fun _ _ => iK (h := at_) (m := at_) (sz := 1) Tryz.underlying25 rfl (aV _) rfl rfl (by omega) (by omega) rfl) ?_
     simp only [pq]
     refine bM 6 rfl _ a7.sat (fun _ _ => ef (mG _ _)) ?_
     simp only [pq]
     refine bM 7 rfl _ a7.sat (fun _ i8 => aE rfl (aT (bU _) (St.fz (St.start i8) (d6 1 _ rfl)))) ?_
     simp only [pq]
     refine eD 8 rfl a7.sat ?_
     simp only [pq]
     refine gA 11 rfl a7.sat ?_
     simp only [pq]
     refine dQ 9 (by kernel_rfl) rfl ?_
     refine dr (nI (min t.synced at_)) (uN (m := ((t.synced : Nat) : Int)) (n := ((at_ : Nat) : Int)) (r := (((min t.synced at_) : Nat) : Int)) rfl rfl (by omega)) ?_
     refine aH (dB a7.sat ?_)
     refine bM 10 rfl (.agg #[(.slice a2 at_ at_), (nI (min t.synced at_))]) a7.sat (fun _ _ => aJ (ps := #[(0, (.slice a2 at_ at_)), (1, (nI (min t.synced at_)))]) (eZ rfl rfl) (by kernel_rfl)) ?_
     simp only [pq]
     refine dQ 12 (by kernel_rfl) rfl ?_
     refine sW 0 a7 (bL) fun t6 c8 => ?_
     refine aH (dB c8.sat ?_)
     refine gA 13 rfl c8.sat ?_
     simp only [pq]
     refine jP (by kernel_rfl) ?_
     refine i4 _ _ ?_
     refine aO ?_
     try simp only [xt]
     refine bR (tH rfl (gD rfl) ⟨_, rfl, lR c8 0 Tryz.underlying108 (bL)⟩ (gD rfl)) ?_
     ·refine ⟨_, _, _, _, by rw [hrt]; try rfl, c8.gr, by rw [hrt]; exact c8.own (i := 0) rfl, by rw [hrt]; exact (m6.mono i6)⟩
theorem TpV.dropT {w : World} {F : Fz} {n : Nat} {T : TypeId} (hs : Sat w F) (hb : w.heap[n]? = some (.cells [Value.slice none 0 0, Value.int .i64 0].toArray T (0, 0))) (hc : ∀ u ∈ [Value.slice none 0 0, Value.int .i64 0], ∀ x, u ≠ bv x) {u : Value} {t : Tp} (h : TpV F u t) : TpV (dropF F n) u t := by
 obtain ⟨x0, y0, rfl, h0⟩ := h
 exact ⟨x0, y0, rfl, h0.dropF hs hb hc⟩
theorem TpV.zero (F : Fz) : TpV F (.agg #[.slice none 0 0, .int .i64 0]) ⟨[], 0⟩ := ⟨none, 0, rfl, Bs.nil F⟩
def OB : List Int := [0, 0, 3, 7, 11, 3, 0, 0, 3]
def Has (w : World) : Prop := ∀ i (hi : i < OB.length), w.cell? ⟨0, i, none⟩ = some (.int .i64 OB[i])
def iO (h : Nat) (n y l v : Nat) : Int :=
  if h.testBit 0 ∧ ¬ (1 ≤ n ∧ n ≤ 8) then 1 else if h.testBit 0 ∧ ¬ (1 ≤ y ∧ y ≤ 16) then 1 else if h.testBit 2 ∧ ¬ (1 ≤ l ∧ l ≤ 16) then 1 else if 32 < v then 1
  else if (¬ h.testBit 0 ∧ 0 < n) ∨ (¬ h.testBit 1 ∧ 0 < y) ∨ (¬ h.testBit 2 ∧ 0 < l) ∨ (¬ h.testBit 3 ∧ 0 < v) then 4 else 0
theorem sV (w : World) (k : Nat) (k1 : 1 ≤ k) (k8 : k ≤ 8) (hg : 0 < w.heap.size) (hc : w.cell? ⟨0, k, none⟩ = some (.int .i64 0))
    (a0 a1 a2 a3 : Option Addr) (n y l v c0 c1 c2 c3 : Nat) (bn : n ≤ 9223372036854775807) (by' : y ≤ 9223372036854775807) (bl : l ≤ 9223372036854775807) (bv' : v ≤ 9223372036854775807) (hyc : y ≤ c1) (hyc' : c1 ≤ maxLen) (hlc : l ≤ c2) (hlc' : c2 ≤ maxLen) :
    Calls Tryz.prog 41 #[.agg #[.int .i64 k, .slice a0 n c0, .slice a1 y c1, .slice a2 l c2, .slice a3 v c3]] w (cY w (.int .i64 (iO 0 n y l v))) := by
 have HA : Hid (iO 0 n y l v = if 32 < v then 1 else if 0 < n ∨ 0 < y ∨ 0 < l ∨ 0 < v then 4 else 0) := by
  unfold Hid iO
  rw [show (0 : Nat).testBit 0 = false from rfl, show (0 : Nat).testBit 1 = false from rfl, show (0 : Nat).testBit 2 = false from rfl, show (0 : Nat).testBit 3 = false from rfl]
  simp
 generalize iO 0 n y l v = r at *
 have ix0 : ∀ (X : World) (n' y' l' v' : Nat), (Instr.index 91 (.agg #[.slice a0 n' c0, .slice a1 y' c1, .slice a2 l' c2, .slice a3 v' c3]) (.int .i64 0)).run Tryz.prog X = .ok (.slice a0 n' c0) X := fun _ _ _ _ _ => by kernel_rfl
 have ix1 : ∀ (X : World) (n' y' l' v' : Nat), (Instr.index 91 (.agg #[.slice a0 n' c0, .slice a1 y' c1, .slice a2 l' c2, .slice a3 v' c3]) (.int .i64 1)).run Tryz.prog X = .ok (.slice a1 y' c1) X := fun _ _ _ _ _ => by kernel_rfl
 have ix2 : ∀ (X : World) (n' y' l' v' : Nat), (Instr.index 91 (.agg #[.slice a0 n' c0, .slice a1 y' c1, .slice a2 l' c2, .slice a3 v' c3]) (.int .i64 2)).run Tryz.prog X = .ok (.slice a2 l' c2) X := fun _ _ _ _ _ => by kernel_rfl
 have ix3 : ∀ (X : World) (n' y' l' v' : Nat), (Instr.index 91 (.agg #[.slice a0 n' c0, .slice a1 y' c1, .slice a2 l' c2, .slice a3 v' c3]) (.int .i64 3)).run Tryz.prog X = .ok (.slice a3 v' c3) X := fun _ _ _ _ _ => by kernel_rfl
 go_enter Tryz.func41, Tryz.ntmps41
 go_wp2_with fail
 ·go_ret
  exact ⟨kH (Eq.symm (HA.out.trans (by first | rw [if_pos (by omega)] | rw [if_neg (by omega), if_pos (by omega)] | rw [if_neg (by omega), if_neg (by omega)]))), (Below.refl _ _).alloc (Nat.le_refl _) _⟩
 ·go_loop [58] (fun t => ∃ i : Nat, i ≤ 4 ∧ t = .int .i64 i ∧ (0 < i → n = 0) ∧ (1 < i → y = 0) ∧ (2 < i → l = 0) ∧ (3 < i → v = 0)) (fun t => 4 - (intOf t).toNat)
  case atStart => exact ⟨0, by omega, rfl, by omega⟩
  case round =>
   obtain ⟨i, hi, rfl, hok⟩ := hrel
   have HOK := hid hok
   clear hok
   rcases (by omega : i = 0 ∨ i = 1 ∨ i = 2 ∨ i = 3 ∨ i = 4) with rfl | rfl | rfl | rfl | rfl
   all_goals
    go_wp2_with fail
   all_goals first
    | exact ⟨⟨1, by omega, rfl, (by have h := HOK.out; omega)⟩, by simp [intOf]⟩
    | exact ⟨⟨_, _, _, _, ⟨1, by omega, rfl, (by have h := HOK.out; omega)⟩, rfl, rfl, rfl, rfl⟩, by simp [intOf]⟩
    | exact ⟨⟨2, by omega, rfl, (by have h := HOK.out; omega)⟩, by simp [intOf]⟩
    | exact ⟨⟨_, _, _, _, ⟨2, by omega, rfl, (by have h := HOK.out; omega)⟩, rfl, rfl, rfl, rfl⟩, by simp [intOf]⟩
    | exact ⟨⟨3, by omega, rfl, (by have h := HOK.out; omega)⟩, by simp [intOf]⟩
    | exact ⟨⟨_, _, _, _, ⟨3, by omega, rfl, (by have h := HOK.out; omega)⟩, rfl, rfl, rfl, rfl⟩, by simp [intOf]⟩
    | exact ⟨⟨4, by omega, rfl, (by have h := HOK.out; omega)⟩, by simp [intOf]⟩
    | exact ⟨⟨_, _, _, _, ⟨4, by omega, rfl, (by have h := HOK.out; omega)⟩, rfl, rfl, rfl, rfl⟩, by simp [intOf]⟩
    | (go_ret; have h := HOK.out; exact ⟨kH (Eq.symm (HA.out.trans (by first | rw [if_pos (by omega)] | rw [if_neg (by omega), if_pos (by omega)] | rw [if_neg (by omega), if_neg (by omega)]))), (Below.refl _ _).alloc (Nat.le_refl _) _⟩)
theorem sX (w : World) (k : Nat) (k1 : 1 ≤ k) (k8 : k ≤ 8) (hg : 0 < w.heap.size) (hc : w.cell? ⟨0, k, none⟩ = some (.int .i64 3))
    (a0 a1 a2 a3 : Option Addr) (n y l v c0 c1 c2 c3 : Nat) (bn : n ≤ 9223372036854775807) (by' : y ≤ 9223372036854775807) (bl : l ≤ 9223372036854775807) (bv' : v ≤ 9223372036854775807) (hyc : y ≤ c1) (hyc' : c1 ≤ maxLen) (hlc : l ≤ c2) (hlc' : c2 ≤ maxLen) :
    Calls Tryz.prog 41 #[.agg #[.int .i64 k, .slice a0 n c0, .slice a1 y c1, .slice a2 l c2, .slice a3 v c3]] w (cY w (.int .i64 (iO 3 n y l v))) := by
 have HA : Hid (iO 3 n y l v = if ¬ (1 ≤ n ∧ n ≤ 8) then 1 else if ¬ (1 ≤ y ∧ y ≤ 16) then 1 else if 32 < v then 1 else if 0 < l ∨ 0 < v then 4 else 0) := by
  unfold Hid iO
  rw [show (3 : Nat).testBit 0 = true from rfl, show (3 : Nat).testBit 1 = true from rfl, show (3 : Nat).testBit 2 = false from rfl, show (3 : Nat).testBit 3 = false from rfl]
  simp
 generalize iO 3 n y l v = r at *
 have ix0 : ∀ (X : World) (n' y' l' v' : Nat), (Instr.index 91 (.agg #[.slice a0 n' c0, .slice a1 y' c1, .slice a2 l' c2, .slice a3 v' c3]) (.int .i64 0)).run Tryz.prog X = .ok (.slice a0 n' c0) X := fun _ _ _ _ _ => by kernel_rfl
 have ix1 : ∀ (X : World) (n' y' l' v' : Nat), (Instr.index 91 (.agg #[.slice a0 n' c0, .slice a1 y' c1, .slice a2 l' c2, .slice a3 v' c3]) (.int .i64 1)).run Tryz.prog X = .ok (.slice a1 y' c1) X := fun _ _ _ _ _ => by kernel_rfl
 have ix2 : ∀ (X : World) (n' y' l' v' : Nat), (Instr.index 91 (.agg #[.slice a0 n' c0, .slice a1 y' c1, .slice a2 l' c2, .slice a3 v' c3]) (.int .i64 2)).run Tryz.prog X = .ok (.slice a2 l' c2) X := fun _ _ _ _ _ => by kernel_rfl
 have ix3 : ∀ (X : World) (n' y' l' v' : Nat), (Instr.index 91 (.agg #[.slice a0 n' c0, .slice a1 y' c1, .slice a2 l' c2, .slice a3 v' c3]) (.int .i64 3)).run Tryz.prog X = .ok (.slice a3 v' c3) X := fun _ _ _ _ _ => by kernel_rfl
 by_cases q0 : 1 ≤ n ∧ n ≤ 8
 case neg =>
  have h0 := hid (tN q0)
  go_enter Tryz.func41, Tryz.ntmps41
  go_wp2_with (go_at_call 42; refine (gS _ _ _ _).mono ?_; rw [h0.out]; rintro e w' ⟨rfl, rfl⟩)
  go_ret
  exact ⟨kH (Eq.symm (HA.out.trans (by first | rw [if_pos (by omega)] | rw [if_neg (by omega), if_pos (by omega)] | rw [if_neg (by omega), if_neg (by omega), if_pos (by omega)] | rw [if_neg (by omega), if_neg (by omega), if_neg (by omega), if_pos (by omega)] | rw [if_neg (by omega), if_neg (by omega), if_neg (by omega), if_neg (by omega)]))), (Below.refl _ _).alloc (Nat.le_refl _) _⟩
 by_cases q1 : 1 ≤ y ∧ y ≤ 16
 case neg =>
  have h0 := hid (lA q0.1 q0.2)
  have h1 := hid (nL q1)
  go_enter Tryz.func41, Tryz.ntmps41
  go_wp2_with (first | (go_at_call 42; refine (gS _ _ _ _).mono ?_; rw [h0.out]; rintro e w' ⟨rfl, rfl⟩) | (go_at_call 55; refine (iU _ _ _ _ hyc hyc').mono ?_; rw [h1.out]; rintro e w' ⟨rfl, rfl⟩))
  go_ret
  exact ⟨kH (Eq.symm (HA.out.trans (by first | rw [if_pos (by omega)] | rw [if_neg (by omega), if_pos (by omega)] | rw [if_neg (by omega), if_neg (by omega), if_pos (by omega)] | rw [if_neg (by omega), if_neg (by omega), if_neg (by omega), if_pos (by omega)] | rw [if_neg (by omega), if_neg (by omega), if_neg (by omega), if_neg (by omega)]))), (Below.refl _ _).alloc (Nat.le_refl _) _⟩
 have h0 := hid (lA q0.1 q0.2)
 have h1 := hid (jL q1.1 q1.2)
 go_enter Tryz.func41, Tryz.ntmps41
 go_wp2_with fail
 refine (gS _ _ _ _).mono ?_; rw [h0.out]; rintro e w' ⟨rfl, rfl⟩
 go_wp2_with fail
 refine (iU _ _ _ _ hyc hyc').mono ?_; rw [h1.out]; rintro e w' ⟨rfl, rfl⟩
 go_wp2_with fail
 ·go_ret
  exact ⟨kH (Eq.symm (HA.out.trans (by first | rw [if_pos (by omega)] | rw [if_neg (by omega), if_pos (by omega)] | rw [if_neg (by omega), if_neg (by omega), if_pos (by omega)] | rw [if_neg (by omega), if_neg (by omega), if_neg (by omega), if_pos (by omega)] | rw [if_neg (by omega), if_neg (by omega), if_neg (by omega), if_neg (by omega)]))), (Below.refl _ _).alloc (Nat.le_refl _) _⟩
 ·go_loop [58] (fun t => ∃ i : Nat, i ≤ 4 ∧ t = .int .i64 i ∧ (2 < i → l = 0) ∧ (3 < i → v = 0)) (fun t => 4 - (intOf t).toNat)
  case atStart => exact ⟨0, by omega, rfl, by omega⟩
  case round =>
   obtain ⟨i, hi, rfl, hok⟩ := hrel
   have HOK := hid hok
   clear hok
   rcases (by omega : i = 0 ∨ i = 1 ∨ i = 2 ∨ i = 3 ∨ i = 4) with rfl | rfl | rfl | rfl | rfl
   all_goals
    go_wp2_with fail
   all_goals first
    | exact ⟨⟨1, by omega, rfl, (by have h := HOK.out; omega)⟩, by simp [intOf]⟩
    | exact ⟨⟨_, _, _, _, ⟨1, by omega, rfl, (by have h := HOK.out; omega)⟩, rfl, rfl, rfl, rfl⟩, by simp [intOf]⟩
    | exact ⟨⟨2, by omega, rfl, (by have h := HOK.out; omega)⟩, by simp [intOf]⟩
    | exact ⟨⟨_, _, _, _, ⟨2, by omega, rfl, (by have h := HOK.out; omega)⟩, rfl, rfl, rfl, rfl⟩, by simp [intOf]⟩
    | exact ⟨⟨3, by omega, rfl, (by have h := HOK.out; omega)⟩, by simp [intOf]⟩
    | exact ⟨⟨_, _, _, _, ⟨3, by omega, rfl, (by have h := HOK.out; omega)⟩, rfl, rfl, rfl, rfl⟩, by simp [intOf]⟩
    | exact ⟨⟨4, by omega, rfl, (by have h := HOK.out; omega)⟩, by simp [intOf]⟩
    | exact ⟨⟨_, _, _, _, ⟨4, by omega, rfl, (by have h := HOK.out; omega)⟩, rfl, rfl, rfl, rfl⟩, by simp [intOf]⟩
    | (go_ret; have h := HOK.out; exact ⟨kH (Eq.symm (HA.out.trans (by first | rw [if_pos (by omega)] | rw [if_neg (by omega), if_pos (by omega)] | rw [if_neg (by omega), if_neg (by omega), if_pos (by omega)] | rw [if_neg (by omega), if_neg (by omega), if_neg (by omega), if_pos (by omega)] | rw [if_neg (by omega), if_neg (by omega), if_neg (by omega), if_neg (by omega)]))), (Below.refl _ _).alloc (Nat.le_refl _) _⟩)
theorem KR (w : World) (k : Nat) (k1 : 1 ≤ k) (k8 : k ≤ 8) (hg : 0 < w.heap.size) (hc : w.cell? ⟨0, k, none⟩ = some (.int .i64 7))
    (a0 a1 a2 a3 : Option Addr) (n y l v c0 c1 c2 c3 : Nat) (bn : n ≤ 9223372036854775807) (by' : y ≤ 9223372036854775807) (bl : l ≤ 9223372036854775807) (bv' : v ≤ 9223372036854775807) (hyc : y ≤ c1) (hyc' : c1 ≤ maxLen) (hlc : l ≤ c2) (hlc' : c2 ≤ maxLen) :
    Calls Tryz.prog 41 #[.agg #[.int .i64 k, .slice a0 n c0, .slice a1 y c1, .slice a2 l c2, .slice a3 v c3]] w (cY w (.int .i64 (iO 7 n y l v))) := by
 have HA : Hid (iO 7 n y l v = if ¬ (1 ≤ n ∧ n ≤ 8) then 1 else if ¬ (1 ≤ y ∧ y ≤ 16) then 1 else if ¬ (1 ≤ l ∧ l ≤ 16) then 1 else if 32 < v then 1 else if 0 < v then 4 else 0) := by
  unfold Hid iO
  rw [show (7 : Nat).testBit 0 = true from rfl, show (7 : Nat).testBit 1 = true from rfl, show (7 : Nat).testBit 2 = true from rfl, show (7 : Nat).testBit 3 = false from rfl]
  simp
 generalize iO 7 n y l v = r at *
 have ix0 : ∀ (X : World) (n' y' l' v' : Nat), (Instr.index 91 (.agg #[.slice a0 n' c0, .slice a1 y' c1, .slice a2 l' c2, .slice a3 v' c3]) (.int .i64 0)).run Tryz.prog X = .ok (.slice a0 n' c0) X := fun _ _ _ _ _ => by kernel_rfl
 have ix1 : ∀ (X : World) (n' y' l' v' : Nat), (Instr.index 91 (.agg #[.slice a0 n' c0, .slice a1 y' c1, .slice a2 l' c2, .slice a3 v' c3]) (.int .i64 1)).run Tryz.prog X = .ok (.slice a1 y' c1) X := fun _ _ _ _ _ => by kernel_rfl
 have ix2 : ∀ (X : World) (n' y' l' v' : Nat), (Instr.index 91 (.agg #[.slice a0 n' c0, .slice a1 y' c1, .slice a2 l' c2, .slice a3 v' c3]) (.int .i64 2)).run Tryz.prog X = .ok (.slice a2 l' c2) X := fun _ _ _ _ _ => by kernel_rfl
 have ix3 : ∀ (X : World) (n' y' l' v' : Nat), (Instr.index 91 (.agg #[.slice a0 n' c0, .slice a1 y' c1, .slice a2 l' c2, .slice a3 v' c3]) (.int .i64 3)).run Tryz.prog X = .ok (.slice a3 v' c3) X := fun _ _ _ _ _ => by kernel_rfl
 by_cases q0 : 1 ≤ n ∧ n ≤ 8
 case neg =>
  have h0 := hid (tN q0)
  go_enter Tryz.func41, Tryz.ntmps41
  go_wp2_with (go_at_call 42; refine (gS _ _ _ _).mono ?_; rw [h0.out]; rintro e w' ⟨rfl, rfl⟩)
  go_ret
  exact ⟨kH (Eq.symm (HA.out.trans (by first | rw [if_pos (by omega)] | rw [if_neg (by omega), if_pos (by omega)] | rw [if_neg (by omega), if_neg (by omega), if_pos (by omega)] | rw [if_neg (by omega), if_neg (by omega), if_neg (by omega), if_pos (by omega)] | rw [if_neg (by omega), if_neg (by omega), if_neg (by omega), if_neg (by omega), if_pos (by omega)] | rw [if_neg (by omega), if_neg (by omega), if_neg (by omega), if_neg (by omega), if_neg (by omega)]))), (Below.refl _ _).alloc (Nat.le_refl _) _⟩
 by_cases q1 : 1 ≤ y ∧ y ≤ 16
 case neg =>
  have h0 := hid (lA q0.1 q0.2)
  have h1 := hid (nL q1)
  go_enter Tryz.func41, Tryz.ntmps41
  go_wp2_with (first | (go_at_call 42; refine (gS _ _ _ _).mono ?_; rw [h0.out]; rintro e w' ⟨rfl, rfl⟩) | (go_at_call 55; refine (iU _ _ _ _ hyc hyc').mono ?_; rw [h1.out]; rintro e w' ⟨rfl, rfl⟩))
  go_ret
  exact ⟨kH (Eq.symm (HA.out.trans (by first | rw [if_pos (by omega)] | rw [if_neg (by omega), if_pos (by omega)] | rw [if_neg (by omega), if_neg (by omega), if_pos (by omega)] | rw [if_neg (by omega), if_neg (by omega), if_neg (by omega), if_pos (by omega)] | rw [if_neg (by omega), if_neg (by omega), if_neg (by omega), if_neg (by omega), if_pos (by omega)] | rw [if_neg (by omega), if_neg (by omega), if_neg (by omega), if_neg (by omega), if_neg (by omega)]))), (Below.refl _ _).alloc (Nat.le_refl _) _⟩
 have h0 := hid (lA q0.1 q0.2)
 have h1 := hid (jL q1.1 q1.2)
 by_cases q2 : 1 ≤ l ∧ l ≤ 16
 case neg =>
  have h2 := hid (nL q2)
  go_enter Tryz.func41, Tryz.ntmps41
  go_wp2_with fail
  refine (gS _ _ _ _).mono ?_; rw [h0.out]; rintro e w' ⟨rfl, rfl⟩
  go_wp2_with fail
  refine (iU _ _ _ _ hyc hyc').mono ?_; rw [h1.out]; rintro e w' ⟨rfl, rfl⟩
  go_wp2_with fail
  refine (iU _ _ _ _ hlc hlc').mono ?_; rw [h2.out]; rintro e w' ⟨rfl, rfl⟩
  go_wp2_with fail
  go_ret
  exact ⟨kH (Eq.symm (HA.out.trans (by first | rw [if_pos (by omega)] | rw [if_neg (by omega), if_pos (by omega)] | rw [if_neg (by omega), if_neg (by omega), if_pos (by omega)] | rw [if_neg (by omega), if_neg (by omega), if_neg (by omega), if_pos (by omega)] | rw [if_neg (by omega), if_neg (by omega), if_neg (by omega), if_neg (by omega), if_pos (by omega)] | rw [if_neg (by omega), if_neg (by omega), if_neg (by omega), if_neg (by omega), if_neg (by omega)]))), (Below.refl _ _).alloc (Nat.le_refl _) _⟩
 have h2 := hid (jL q2.1 q2.2)
 go_enter Tryz.func41, Tryz.ntmps41
 go_wp2_with fail
 refine (gS _ _ _ _).mono ?_; rw [h0.out]; rintro e w' ⟨rfl, rfl⟩
 go_wp2_with fail
 refine (iU _ _ _ _ hyc hyc').mono ?_; rw [h1.out]; rintro e w' ⟨rfl, rfl⟩
 go_wp2_with fail
 refine (iU _ _ _ _ hlc hlc').mono ?_; rw [h2.out]; rintro e w' ⟨rfl, rfl⟩
 go_wp2_with fail
 ·go_ret
  exact ⟨kH (Eq.symm (HA.out.trans (by first | rw [if_pos (by omega)] | rw [if_neg (by omega), if_pos (by omega)] | rw [if_neg (by omega), if_neg (by omega), if_pos (by omega)] | rw [if_neg (by omega), if_neg (by omega), if_neg (by omega), if_pos (by omega)] | rw [if_neg (by omega), if_neg (by omega), if_neg (by omega), if_neg (by omega), if_pos (by omega)] | rw [if_neg (by omega), if_neg (by omega), if_neg (by omega), if_neg (by omega), if_neg (by omega)]))), (Below.refl _ _).alloc (Nat.le_refl _) _⟩
 ·go_loop [58] (fun t => ∃ i : Nat, i ≤ 4 ∧ t = .int .i64 i ∧ (3 < i → v = 0)) (fun t => 4 - (intOf t).toNat)
  case atStart => exact ⟨0, by omega, rfl, by omega⟩
  case round =>
   obtain ⟨i, hi, rfl, hok⟩ := hrel
   have HOK := hid hok
   clear hok
   rcases (by omega : i = 0 ∨ i = 1 ∨ i = 2 ∨ i = 3 ∨ i = 4) with rfl | rfl | rfl | rfl | rfl
   all_goals
    go_wp2_with fail
   all_goals first
    | exact ⟨⟨1, by omega, rfl, (by have h := HOK.out; omega)⟩, by simp [intOf]⟩
    | exact ⟨⟨_, _, _, _, ⟨1, by omega, rfl, (by have h := HOK.out; omega)⟩, rfl, rfl, rfl, rfl⟩, by simp [intOf]⟩
    | exact ⟨⟨2, by omega, rfl, (by have h := HOK.out; omega)⟩, by simp [intOf]⟩
    | exact ⟨⟨_, _, _, _, ⟨2, by omega, rfl, (by have h := HOK.out; omega)⟩, rfl, rfl, rfl, rfl⟩, by simp [intOf]⟩
    | exact ⟨⟨3, by omega, rfl, (by have h := HOK.out; omega)⟩, by simp [intOf]⟩
    | exact ⟨⟨_, _, _, _, ⟨3, by omega, rfl, (by have h := HOK.out; omega)⟩, rfl, rfl, rfl, rfl⟩, by simp [intOf]⟩
    | exact ⟨⟨4, by omega, rfl, (by have h := HOK.out; omega)⟩, by simp [intOf]⟩
    | exact ⟨⟨_, _, _, _, ⟨4, by omega, rfl, (by have h := HOK.out; omega)⟩, rfl, rfl, rfl, rfl⟩, by simp [intOf]⟩
    | (go_ret; have h := HOK.out; exact ⟨kH (Eq.symm (HA.out.trans (by first | rw [if_pos (by omega)] | rw [if_neg (by omega), if_pos (by omega)] | rw [if_neg (by omega), if_neg (by omega), if_pos (by omega)] | rw [if_neg (by omega), if_neg (by omega), if_neg (by omega), if_pos (by omega)] | rw [if_neg (by omega), if_neg (by omega), if_neg (by omega), if_neg (by omega), if_pos (by omega)] | rw [if_neg (by omega), if_neg (by omega), if_neg (by omega), if_neg (by omega), if_neg (by omega)]))), (Below.refl _ _).alloc (Nat.le_refl _) _⟩)
theorem HV (w : World) (k : Nat) (k1 : 1 ≤ k) (k8 : k ≤ 8) (hg : 0 < w.heap.size) (hc : w.cell? ⟨0, k, none⟩ = some (.int .i64 11))
    (a0 a1 a2 a3 : Option Addr) (n y l v c0 c1 c2 c3 : Nat) (bn : n ≤ 9223372036854775807) (by' : y ≤ 9223372036854775807) (bl : l ≤ 9223372036854775807) (bv' : v ≤ 9223372036854775807) (hyc : y ≤ c1) (hyc' : c1 ≤ maxLen) (hlc : l ≤ c2) (hlc' : c2 ≤ maxLen) :
    Calls Tryz.prog 41 #[.agg #[.int .i64 k, .slice a0 n c0, .slice a1 y c1, .slice a2 l c2, .slice a3 v c3]] w (cY w (.int .i64 (iO 11 n y l v))) := by
 have HA : Hid (iO 11 n y l v = if ¬ (1 ≤ n ∧ n ≤ 8) then 1 else if ¬ (1 ≤ y ∧ y ≤ 16) then 1 else if 32 < v then 1 else if 0 < l then 4 else 0) := by
  unfold Hid iO
  rw [show (11 : Nat).testBit 0 = true from rfl, show (11 : Nat).testBit 1 = true from rfl, show (11 : Nat).testBit 2 = false from rfl, show (11 : Nat).testBit 3 = true from rfl]
  simp
 generalize iO 11 n y l v = r at *
 have ix0 : ∀ (X : World) (n' y' l' v' : Nat), (Instr.index 91 (.agg #[.slice a0 n' c0, .slice a1 y' c1, .slice a2 l' c2, .slice a3 v' c3]) (.int .i64 0)).run Tryz.prog X = .ok (.slice a0 n' c0) X := fun _ _ _ _ _ => by kernel_rfl
 have ix1 : ∀ (X : World) (n' y' l' v' : Nat), (Instr.index 91 (.agg #[.slice a0 n' c0, .slice a1 y' c1, .slice a2 l' c2, .slice a3 v' c3]) (.int .i64 1)).run Tryz.prog X = .ok (.slice a1 y' c1) X := fun _ _ _ _ _ => by kernel_rfl
 have ix2 : ∀ (X : World) (n' y' l' v' : Nat), (Instr.index 91 (.agg #[.slice a0 n' c0, .slice a1 y' c1, .slice a2 l' c2, .slice a3 v' c3]) (.int .i64 2)).run Tryz.prog X = .ok (.slice a2 l' c2) X := fun _ _ _ _ _ => by kernel_rfl
 have ix3 : ∀ (X : World) (n' y' l' v' : Nat), (Instr.index 91 (.agg #[.slice a0 n' c0, .slice a1 y' c1, .slice a2 l' c2, .slice a3 v' c3]) (.int .i64 3)).run Tryz.prog X = .ok (.slice a3 v' c3) X := fun _ _ _ _ _ => by kernel_rfl
 by_cases q0 : 1 ≤ n ∧ n ≤ 8
 case neg =>
  have h0 := hid (tN q0)
  go_enter Tryz.func41, Tryz.ntmps41
  go_wp2_with (go_at_call 42; refine (gS _ _ _ _).mono ?_; rw [h0.out]; rintro e w' ⟨rfl, rfl⟩)
  go_ret
  exact ⟨kH (Eq.symm (HA.out.trans (by first | rw [if_pos (by omega)] | rw [if_neg (by omega), if_pos (by omega)] | rw [if_neg (by omega), if_neg (by omega), if_pos (by omega)] | rw [if_neg (by omega), if_neg (by omega), if_neg (by omega), if_pos (by omega)] | rw [if_neg (by omega), if_neg (by omega), if_neg (by omega), if_neg (by omega)]))), (Below.refl _ _).alloc (Nat.le_refl _) _⟩
 by_cases q1 : 1 ≤ y ∧ y ≤ 16
 case neg =>
  have h0 := hid (lA q0.1 q0.2)
  have h1 := hid (nL q1)
  go_enter Tryz.func41, Tryz.ntmps41
  go_wp2_with (first | (go_at_call 42; refine (gS _ _ _ _).mono ?_; rw [h0.out]; rintro e w' ⟨rfl, rfl⟩) | (go_at_call 55; refine (iU _ _ _ _ hyc hyc').mono ?_; rw [h1.out]; rintro e w' ⟨rfl, rfl⟩))
  go_ret
  exact ⟨kH (Eq.symm (HA.out.trans (by first | rw [if_pos (by omega)] | rw [if_neg (by omega), if_pos (by omega)] | rw [if_neg (by omega), if_neg (by omega), if_pos (by omega)] | rw [if_neg (by omega), if_neg (by omega), if_neg (by omega), if_pos (by omega)] | rw [if_neg (by omega), if_neg (by omega), if_neg (by omega), if_neg (by omega)]))), (Below.refl _ _).alloc (Nat.le_refl _) _⟩
 have h0 := hid (lA q0.1 q0.2)
 have h1 := hid (jL q1.1 q1.2)
 go_enter Tryz.func41, Tryz.ntmps41
 go_wp2_with fail
 refine (gS _ _ _ _).mono ?_; rw [h0.out]; rintro e w' ⟨rfl, rfl⟩
 go_wp2_with fail
 refine (iU _ _ _ _ hyc hyc').mono ?_; rw [h1.out]; rintro e w' ⟨rfl, rfl⟩
 go_wp2_with fail
 ·go_ret
  exact ⟨kH (Eq.symm (HA.out.trans (by first | rw [if_pos (by omega)] | rw [if_neg (by omega), if_pos (by omega)] | rw [if_neg (by omega), if_neg (by omega), if_pos (by omega)] | rw [if_neg (by omega), if_neg (by omega), if_neg (by omega), if_pos (by omega)] | rw [if_neg (by omega), if_neg (by omega), if_neg (by omega), if_neg (by omega)]))), (Below.refl _ _).alloc (Nat.le_refl _) _⟩
 ·go_loop [58] (fun t => ∃ i : Nat, i ≤ 4 ∧ t = .int .i64 i ∧ (2 < i → l = 0)) (fun t => 4 - (intOf t).toNat)
  case atStart => exact ⟨0, by omega, rfl, by omega⟩
  case round =>
   obtain ⟨i, hi, rfl, hok⟩ := hrel
   have HOK := hid hok
   clear hok
   rcases (by omega : i = 0 ∨ i = 1 ∨ i = 2 ∨ i = 3 ∨ i = 4) with rfl | rfl | rfl | rfl | rfl
   all_goals
    go_wp2_with fail
   all_goals first
    | exact ⟨⟨1, by omega, rfl, (by have h := HOK.out; omega)⟩, by simp [intOf]⟩
    | exact ⟨⟨_, _, _, _, ⟨1, by omega, rfl, (by have h := HOK.out; omega)⟩, rfl, rfl, rfl, rfl⟩, by simp [intOf]⟩
    | exact ⟨⟨2, by omega, rfl, (by have h := HOK.out; omega)⟩, by simp [intOf]⟩
    | exact ⟨⟨_, _, _, _, ⟨2, by omega, rfl, (by have h := HOK.out; omega)⟩, rfl, rfl, rfl, rfl⟩, by simp [intOf]⟩
    | exact ⟨⟨3, by omega, rfl, (by have h := HOK.out; omega)⟩, by simp [intOf]⟩
    | exact ⟨⟨_, _, _, _, ⟨3, by omega, rfl, (by have h := HOK.out; omega)⟩, rfl, rfl, rfl, rfl⟩, by simp [intOf]⟩
    | exact ⟨⟨4, by omega, rfl, (by have h := HOK.out; omega)⟩, by simp [intOf]⟩
    | exact ⟨⟨_, _, _, _, ⟨4, by omega, rfl, (by have h := HOK.out; omega)⟩, rfl, rfl, rfl, rfl⟩, by simp [intOf]⟩
    | (go_ret; have h := HOK.out; exact ⟨kH (Eq.symm (HA.out.trans (by first | rw [if_pos (by omega)] | rw [if_neg (by omega), if_pos (by omega)] | rw [if_neg (by omega), if_neg (by omega), if_pos (by omega)] | rw [if_neg (by omega), if_neg (by omega), if_neg (by omega), if_pos (by omega)] | rw [if_neg (by omega), if_neg (by omega), if_neg (by omega), if_neg (by omega)]))), (Below.refl _ _).alloc (Nat.le_refl _) _⟩)
def CF (F : Fz) (v : Value) (kind : Int) (n y l x : List UInt8) : Prop := ∃ a b c d, v = .agg #[.int .i64 kind, a, b, c, d] ∧ Bs F a n ∧ Bs F b y ∧ Bs F c l ∧ Bs F d x
def rM (k : Nat) (n y l v : Nat) : Int := iO (OB.getD k 0).toNat n y l v
theorem sY (F : Fz) (w : World) (v : Value) (k : Nat) (n y l x : List UInt8) (k1 : 1 ≤ k) (k8 : k ≤ 8) (hh : Has w) (hv : CF F v k n y l x) :
    Calls Tryz.prog 41 #[v] w (cY w (.int .i64 (rM k n.length y.length l.length x.length))) := by
 obtain ⟨a, b, c, d, rfl, ha, hb, hc, hd⟩ := hv
 obtain ⟨a0, c0, rfl, e1, e2⟩ := ha.shape
 obtain ⟨a1, c1, rfl, e3, e4⟩ := hb.shape
 obtain ⟨a2, c2, rfl, e5, e6⟩ := hc.shape
 obtain ⟨a3, c3, rfl, e7, e8⟩ := hd.shape
 have f2 := e2
 have f4 := e4
 have f6 := e6
 have f8 := e8
 unfold maxLen at f2 f4 f6 f8
 have hg : 0 < w.heap.size := World.block_lt_of_cell? w ⟨0, 0, none⟩ (hh 0 (by decide))
 have hk := hh k (by simp [OB]; omega)
 unfold rM
 rcases (by omega : k = 1 ∨ k = 2 ∨ k = 3 ∨ k = 4 ∨ k = 5 ∨ k = 6 ∨ k = 7 ∨ k = 8) with rfl | rfl | rfl | rfl | rfl | rfl | rfl | rfl
 ·exact sV w 1 k1 k8 hg hk _ _ _ _ _ _ _ _ _ _ _ _ (by omega) (by omega) (by omega) (by omega) e3 e4 e5 e6
 ·exact sX w 2 k1 k8 hg hk _ _ _ _ _ _ _ _ _ _ _ _ (by omega) (by omega) (by omega) (by omega) e3 e4 e5 e6
 ·exact KR w 3 k1 k8 hg hk _ _ _ _ _ _ _ _ _ _ _ _ (by omega) (by omega) (by omega) (by omega) e3 e4 e5 e6
 ·exact HV w 4 k1 k8 hg hk _ _ _ _ _ _ _ _ _ _ _ _ (by omega) (by omega) (by omega) (by omega) e3 e4 e5 e6
 ·exact sX w 5 k1 k8 hg hk _ _ _ _ _ _ _ _ _ _ _ _ (by omega) (by omega) (by omega) (by omega) e3 e4 e5 e6
 ·exact sV w 6 k1 k8 hg hk _ _ _ _ _ _ _ _ _ _ _ _ (by omega) (by omega) (by omega) (by omega) e3 e4 e5 e6
 ·exact sV w 7 k1 k8 hg hk _ _ _ _ _ _ _ _ _ _ _ _ (by omega) (by omega) (by omega) (by omega) e3 e4 e5 e6
 ·exact sX w 8 k1 k8 hg hk _ _ _ _ _ _ _ _ _ _ _ _ (by omega) (by omega) (by omega) (by omega) e3 e4 e5 e6
theorem Has.below {w w' : World} (h : Has w) (hb : Below w.heap.size w w') : Has w' := fun i hi => by
  rw [hb.cell (World.block_lt_of_cell? w ⟨0, i, none⟩ (h i hi))]; exact h i hi
def bB (k : Nat) : Nat := (OB.getD k 0).toNat
def Rq.part (r : Rq) : Nat → By
  | 0 => r.name
  | 1 => r.key
  | 2 => r.last
  | _ => r.value
def Rq.put (r : Rq) : Nat → By → Rq
  | 0, p => { r with name := p }
  | 1, p => { r with key := p }
  | 2, p => { r with last := p }
  | _, p => { r with value := p }
def gW (h : Nat) (r : Rq) : Nat → By
  | 0 => []
  | i + 1 => gW h r i ++ xM (h.testBit i) (r.part i)
theorem OC (h : Nat) (r : Rq) : gW h r 4 = FW h r := by
 simp [gW, FW, Rq.part]
theorem tX {h i : Nat} (r : Rq) (e : h.testBit i = false) : gW h r (i + 1) = gW h r i := by
 simp [gW, xM, e]
theorem rH {h i : Nat} (r : Rq) (e : h.testBit i = true) : gW h r (i + 1) = gW h r i ++ b8 (r.part i).length :: r.part i := by
 simp [gW, xM, e, dF]
def dX (h : Nat) : Nat → Nat → Rq → By → Option (Rq × By)
  | 0, _, r, b => some (r, b)
  | n + 1, i, r, b => if h.testBit i = true then
      match iQ b with
      | none => none
      | some p => dX h n (i + 1) (r.put i p.1) p.2
    else dX h n (i + 1) r b
theorem dK {h n i : Nat} {r : Rq} {b : By} (e : h.testBit i = false) : dX h (n + 1) i r b = dX h n (i + 1) r b := by
 rw [dX, if_neg (by rw [e]; decide)]
theorem bO {h n i : Nat} {r : Rq} {b : By} (e : h.testBit i = true) (k : iQ b = none) : dX h (n + 1) i r b = none := by
 rw [dX, if_pos e, k]
theorem cN {h n i : Nat} {r : Rq} {b : By} {p : By × By} (e : h.testBit i = true) (k : iQ b = some p) : dX h (n + 1) i r b = dX h n (i + 1) (r.put i p.1) p.2 := by
 rw [dX, if_pos e, k]
theorem KS (h : Nat) (b : By) : dX h 4 0 ⟨[], [], [], []⟩ b = nQ h b := by
 unfold nQ xL
 cases e0 : h.testBit 0
 ·rw [dK e0]
  cases e1 : h.testBit 1
  ·rw [dK e1]
   cases e2 : h.testBit 2
   ·rw [dK e2]
    cases e3 : h.testBit 3
    ·rw [dK e3]; simp [dX]
    ·cases k3 : iQ b with
     | none => rw [bO e3 k3]; simp [k3]
     | some p3 => rw [cN e3 k3]; simp [k3, dX, Rq.put]
   ·cases k2 : iQ b with
    | none => rw [bO e2 k2]; simp [k2]
    | some p2 =>
     rw [cN e2 k2]
     cases e3 : h.testBit 3
     ·rw [dK e3]; simp [k2, dX, Rq.put]
     ·cases k3 : iQ p2.2 with
      | none => rw [bO e3 k3]; simp [k2, k3]
      | some p3 => rw [cN e3 k3]; simp [k2, k3, dX, Rq.put]
  ·cases k1 : iQ b with
   | none => rw [bO e1 k1]; simp [k1]
   | some p1 =>
    rw [cN e1 k1]
    cases e2 : h.testBit 2
    ·rw [dK e2]
     cases e3 : h.testBit 3
     ·rw [dK e3]; simp [k1, dX, Rq.put]
     ·cases k3 : iQ p1.2 with
      | none => rw [bO e3 k3]; simp [k1, k3]
      | some p3 => rw [cN e3 k3]; simp [k1, k3, dX, Rq.put]
    ·cases k2 : iQ p1.2 with
     | none => rw [bO e2 k2]; simp [k1, k2]
     | some p2 =>
      rw [cN e2 k2]
      cases e3 : h.testBit 3
      ·rw [dK e3]; simp [k1, k2, dX, Rq.put]
      ·cases k3 : iQ p2.2 with
       | none => rw [bO e3 k3]; simp [k1, k2, k3]
       | some p3 => rw [cN e3 k3]; simp [k1, k2, k3, dX, Rq.put]
 ·cases k0 : iQ b with
  | none => rw [bO e0 k0]; simp [k0]
  | some p0 =>
   rw [cN e0 k0]
   cases e1 : h.testBit 1
   ·rw [dK e1]
    cases e2 : h.testBit 2
    ·rw [dK e2]
     cases e3 : h.testBit 3
     ·rw [dK e3]; simp [dX, Rq.put]
     ·cases k3 : iQ p0.2 with
      | none => rw [bO e3 k3]; simp [k3]
      | some p3 => rw [cN e3 k3]; simp [k3, dX, Rq.put]
    ·cases k2 : iQ p0.2 with
     | none => rw [bO e2 k2]; simp [k2]
     | some p2 =>
      rw [cN e2 k2]
      cases e3 : h.testBit 3
      ·rw [dK e3]; simp [k2, dX, Rq.put]
      ·cases k3 : iQ p2.2 with
       | none => rw [bO e3 k3]; simp [k2, k3]
       | some p3 => rw [cN e3 k3]; simp [k2, k3, dX, Rq.put]
   ·cases k1 : iQ p0.2 with
    | none => rw [bO e1 k1]; simp [k1]
    | some p1 =>
     rw [cN e1 k1]
     cases e2 : h.testBit 2
     ·rw [dK e2]
      cases e3 : h.testBit 3
      ·rw [dK e3]; simp [k1, dX, Rq.put]
      ·cases k3 : iQ p1.2 with
       | none => rw [bO e3 k3]; simp [k1, k3]
       | some p3 => rw [cN e3 k3]; simp [k1, k3, dX, Rq.put]
     ·cases k2 : iQ p1.2 with
      | none => rw [bO e2 k2]; simp [k1, k2]
      | some p2 =>
       rw [cN e2 k2]
       cases e3 : h.testBit 3
       ·rw [dK e3]; simp [k1, k2, dX, Rq.put]
       ·cases k3 : iQ p2.2 with
        | none => rw [bO e3 k3]; simp [k1, k2, k3]
        | some p3 => rw [cN e3 k3]; simp [k1, k2, k3, dX, Rq.put]
theorem wX {b : By} (h : b.length = 0) : iQ b = none := by
 rw [List.eq_nil_of_length_eq_zero h]; rfl
theorem rI {b : By} {x : UInt8} (h : b[0]? = some x) (k : b.length < 1 + x.toNat) : iQ b = none := by
 cases b with
 | nil => cases h
 | cons y t =>
  simp only [List.getElem?_cons_zero, Option.some.injEq] at h
  subst h
  simp only [List.length_cons] at k
  rw [qP, if_pos (by omega)]
theorem tY {b : By} {x : UInt8} (h : b[0]? = some x) (k : ¬ b.length < 1 + x.toNat) : iQ b = some ((b.take (1 + x.toNat)).drop 1, b.drop (1 + x.toNat)) := by
 cases b with
 | nil => cases h
 | cons y t =>
  simp only [List.getElem?_cons_zero, Option.some.injEq] at h
  subst h
  simp only [List.length_cons] at k
  rw [qP, if_neg (by omega), Nat.add_comm 1]
  simp
def wdE (b : By) : Int :=
  if 4000 < b.length then 1 else match b with
  | [] => 14
  | x :: t => if x.toNat < 1 ∨ 8 < x.toNat then 5 else match nQ (bB x.toNat) t with
    | none => 14
    | some p => if 0 < p.2.length then 4 else rM x.toNat p.1.name.length p.1.key.length p.1.last.length p.1.value.length
def wdR (b : By) : Nat × Rq :=
  if wdE b = 0 then match b with
    | [] => (0, ⟨[], [], [], []⟩)
    | x :: t => match nQ (bB x.toNat) t with
      | none => (0, ⟨[], [], [], []⟩)
      | some p => (x.toNat, p.1)
  else (0, ⟨[], [], [], []⟩)
theorem WT (k : Nat) (h : 1 ≤ k ∧ k ≤ 8) : bB k = 0 ∨ bB k = 3 ∨ bB k = 7 ∨ bB k = 11 := by
 rcases (by omega : k = 1 ∨ k = 2 ∨ k = 3 ∨ k = 4 ∨ k = 5 ∨ k = 6 ∨ k = 7 ∨ k = 8) with rfl | rfl | rfl | rfl | rfl | rfl | rfl | rfl <;> decide
theorem QJ (k : Nat) (h : 1 ≤ k ∧ k ≤ 8) : (bB k).testBit 1 = (bB k).testBit 0 := by
 rcases WT k h with e | e | e | e <;> rw [e] <;> rfl
theorem sZ {h n y l v : Nat} (e : iO h n y l v = 0) : (h.testBit 0 = true → 1 ≤ n ∧ n ≤ 8) ∧ (h.testBit 0 = true → 1 ≤ y ∧ y ≤ 16) ∧ (h.testBit 2 = true → 1 ≤ l ∧ l ≤ 16) ∧ v ≤ 32 ∧
    (h.testBit 0 = false → n = 0) ∧ (h.testBit 1 = false → y = 0) ∧ (h.testBit 2 = false → l = 0) ∧ (h.testBit 3 = false → v = 0) := by
 unfold iO at e
 split at e
 exact absurd e (by decide)
 split at e
 exact absurd e (by decide)
 split at e
 exact absurd e (by decide)
 split at e
 exact absurd e (by decide)
 split at e
 exact absurd e (by decide)
 rename_i q1 q2 q3 q4 q5
 refine ⟨fun hb => Decidable.byContradiction fun hn => q1 ⟨hb, hn⟩, fun hb => Decidable.byContradiction fun hn => q2 ⟨hb, hn⟩, fun hb => Decidable.byContradiction fun hn => q3 ⟨hb, hn⟩, by omega, fun hb => ?_, fun hb => ?_, fun hb => ?_, fun hb => ?_⟩
 exact Decidable.byContradiction fun hn => q5 (Or.inl ⟨by rw [hb]; decide, by omega⟩)
 exact Decidable.byContradiction fun hn => q5 (Or.inr (Or.inl ⟨by rw [hb]; decide, by omega⟩))
 exact Decidable.byContradiction fun hn => q5 (Or.inr (Or.inr (Or.inl ⟨by rw [hb]; decide, by omega⟩)))
 exact Decidable.byContradiction fun hn => q5 (Or.inr (Or.inr (Or.inr ⟨by rw [hb]; decide, by omega⟩)))
theorem Bh {k : Nat} (hk : 1 ≤ k ∧ k ≤ 8) {r : Rq} (h : rM k r.name.length r.key.length r.last.length r.value.length = 0) : FitsW (bB k) r := by
 obtain ⟨a1, a2, a3, a4, a5, a6, a7, a8⟩ := sZ (h := bB k) h
 have hb := QJ k hk
 have e0 : ∀ {l : By}, l.length = 0 → l = [] := fun h => List.eq_nil_of_length_eq_zero h
 refine ⟨⟨?_, fun q => e0 (a5 q)⟩, ⟨?_, fun q => e0 (a6 q)⟩, ⟨?_, fun q => e0 (a7 q)⟩, ⟨by omega, fun q => e0 (a8 q)⟩⟩
 cases e : (bB k).testBit 0
 have := a5 e; omega
 have := a1 e; omega
 cases e : (bB k).testBit 0
 have := a6 (hb.trans e); omega
 have := a2 e; omega
 cases e : (bB k).testBit 2
 have := a7 e; omega
 have := a3 e; omega
structure RqOk (k : Nat) (r : Rq) : Prop where
  kind : 1 ≤ k ∧ k ≤ 8
  fits : rM k r.name.length r.key.length r.last.length r.value.length = 0
def cH (k : Nat) (r : Rq) : By := b8 k :: FW (bB k) r
theorem RqOk.lens {k : Nat} {r : Rq} (h : RqOk k r) : r.name.length ≤ 8 ∧ r.key.length ≤ 16 ∧ r.last.length ≤ 16 ∧ r.value.length ≤ 32 := by
 obtain ⟨a1, a2, a3, a4, a5, a6, a7, a8⟩ := sZ (h := bB k) h.fits
 have hb := QJ k h.kind
 refine ⟨?_, ?_, ?_, a4⟩
 cases e : (bB k).testBit 0
 have := a5 e; omega
 have := a1 e; omega
 cases e : (bB k).testBit 0
 have := a6 (hb.trans e); omega
 have := a2 e; omega
 cases e : (bB k).testBit 2
 have := a7 e; omega
 have := a3 e; omega
theorem tA (c : Bool) (p : By) : (xM c p).length ≤ p.length + 1 := by
 cases c <;> simp [xM, dF]
theorem KT {k : Nat} {r : Rq} (h : RqOk k r) : (cH k r).length ≤ 77 := by
 obtain ⟨a1, a2, a3, a4⟩ := h.lens
 have := tA ((bB k).testBit 0) r.name
 have := tA ((bB k).testBit 1) r.key
 have := tA ((bB k).testBit 2) r.last
 have := tA ((bB k).testBit 3) r.value
 simp only [cH, FW, List.length_cons, List.length_append]
 omega
theorem Fh {k : Nat} (hk : 1 ≤ k ∧ k ≤ 8) {t : By} (hl : t.length < 4000) : wdE (b8 k :: t) = match nQ (bB k) t with
    | none => 14
    | some p => if 0 < p.2.length then 4 else rM k p.1.name.length p.1.key.length p.1.last.length p.1.value.length := by
  unfold wdE
  rw [if_neg (by simp only [List.length_cons]; omega)]
  have e : (b8 k).toNat = k := mD (by omega)
  simp only [e]
  rw [if_neg (by omega)]
theorem tZ {k : Nat} {r : Rq} (h : RqOk k r) : wdE (cH k r) = 0 ∧ wdR (cH k r) = (k, r) := by
 have hl := KT h
 have hd := TY (Bh h.kind h.fits) []
 rw [List.append_nil] at hd
 have he : wdE (cH k r) = 0 := by
  unfold cH at hl ⊢
  rw [Fh h.kind (by simp only [List.length_cons] at hl; omega), hd]
  simp only [List.length_nil]
  rw [if_neg (by omega)]
  exact h.fits
 have e : (b8 k).toNat = k := mD (by have := h.kind; omega)
 refine ⟨he, ?_⟩
 unfold wdR
 rw [if_pos he]
 unfold cH
 simp only [e, hd]
theorem KU {b : By} (h : wdE b = 0) : RqOk (wdR b).1 (wdR b).2 ∧ b = cH (wdR b).1 (wdR b).2 := by
 cases b with
 | nil => exact absurd h (by decide)
 | cons x t =>
  have hr : wdR (x :: t) = match nQ (bB x.toNat) t with
    | none => (0, ⟨[], [], [], []⟩)
    | some p => (x.toNat, p.1) := by unfold wdR; rw [if_pos h]
  unfold wdE at h
  split at h
  exact absurd h (by decide)
  simp only at h
  split at h
  exact absurd h (by decide)
  rename_i hk
  cases hd : nQ (bB x.toNat) t with
  | none => rw [hd] at h; simp at h
  | some p =>
   rw [hd] at h hr
   simp only at h hr
   split at h
   exact absurd h (by decide)
   rename_i hz
   rw [hr]
   have hi := (TZ hd).1
   rw [List.eq_nil_of_length_eq_zero (by omega : p.2.length = 0), List.append_nil] at hi
   refine ⟨⟨by simp only; omega, h⟩, ?_⟩
   simp only [cH, OZ]
   rw [← hi]
theorem Bi {b : By} (h : wdE b ≠ 0) : wdR b = (0, ⟨[], [], [], []⟩) := by unfold wdR; rw [if_neg h]
theorem jT {w : World} (h : Has w) {k : Nat} (hk : 1 ≤ k ∧ k ≤ 8) : w.cell? ⟨0, k, none⟩ = some (.int .i64 ((bB k : Nat) : Int)) := by
 have := h k (by simp [OB]; omega)
 rw [this]
 rcases (by omega : k = 1 ∨ k = 2 ∨ k = 3 ∨ k = 4 ∨ k = 5 ∨ k = 6 ∨ k = 7 ∨ k = 8) with rfl | rfl | rfl | rfl | rfl | rfl | rfl | rfl <;> rfl
theorem pB {h i : Nat} (e : h.testBit i = true) : h / 2 ^ i % 2 = 1 := by
 rw [Nat.testBit_eq_decide_div_mod_eq] at e
 exact of_decide_eq_true e
theorem tB {h i : Nat} (e : h.testBit i = false) : h / 2 ^ i % 2 = 0 := by
 rw [Nat.testBit_eq_decide_div_mod_eq] at e
 have := of_decide_eq_false e
 omega
theorem eU {P : Program} {ρ : Operand → Value} {w : World} {d : Option Tmp} {t X E : TypeId} {n : Nat} {pos : String} {after : Array Edge} {guard : Option (Nat × Bool)} {x y : Operand} {cs : Array Value} {i : Nat} {v : Value} (hX : P.underlying X = some (.array n E)) (hs : (sizeOf E).run P w = .ok 1 w) (hx : ρ x = .agg cs) (hy : ρ y = .int .i64 i) (hi : i < n) (hb : (isAgg E).run P w = .ok false w) (hv : cs[i]? = some v) :
    (execOp ρ ⟨d, .index X x y, t, pos, after, guard⟩).run P w = .ok (.value v) w := by
 have h1 : (0 : Int) ≤ (i : Int) ∧ (i : Int) < (n : Int) := by omega
 simp [execOp, hx, hy, Instr.index, part, Sem.run_bind, run_underlying hX w, asIntOf, hs, h1, hb, hv, hi]
theorem fP {P : Program} {ρ : Operand → Value} {w : World} {d : Option Tmp} {t X E : TypeId} {n : Nat} {pos : String} {after : Array Edge} {guard : Option (Nat × Bool)} {x y : Operand} {b i : Nat} (hX : P.underlying X = some (.array n E)) (hs : (sizeOf E).run P w = .ok 1 w) (hx : ρ x = .pointer (some ⟨b, 0, none⟩)) (hy : ρ y = .int .i64 i) (hi : i < n) :
    (execOp ρ ⟨d, .indexAddr X x y, t, pos, after, guard⟩).run P w = .ok (.value (.pointer (some ⟨b, i, none⟩))) w := by
 have hadd : (⟨b, 0, none⟩ : Addr).add (i * 1) = ⟨b, i, none⟩ := by rw [Addr.add_mid]; simp
 have hlt : (0 : Int) ≤ (i : Int) ∧ (i : Int) < (n : Int) := by omega
 have hlt' : ¬ ((i : Int) < 0 ∨ (n : Int) ≤ (i : Int)) := by omega
 simp only [Nat.mul_one] at hadd
 simp [execOp, hx, hy, Instr.indexAt, Instr.sureAddr, asIntOf, Sem.run_bind, Sem.run_pure, Result.andThen_ok, run_underlying hX w, hs, hadd, hlt, hi]
theorem hY {P : Program} {ρ : Operand → Value} {w : World} {d : Option Tmp} {t X Y : TypeId} {x y : Operand} {pos : String} {after : Array Edge} {guard : Option (Nat × Bool)} {m n : Nat} (hx : ρ x = .int .i64 (m : Int)) (hy : ρ y = .int .i64 (n : Int)) (hn : n ≤ 64) : (execOp ρ ⟨d, .binOp .shr X x y Y, t, pos, after, guard⟩).run P w = .ok (.value (.int .i64 ((m / 2 ^ n : Nat) : Int))) w := by
 have e : (eqGuard .shr X x y (.int .i64 (m : Int)) (.int .i64 (n : Int))).run P w = .ok () w := rfl
 have h : (binOp .shr X (.int .i64 (m : Int)) (.int .i64 (n : Int))).run P w = .ok (.int .i64 ((m / 2 ^ n : Nat) : Int)) w := by
  show (Op.shift .shr .i64 (m : Int) .i64 (n : Int)).run P w = _
  unfold Op.shift
  rw [if_neg (by omega)]
  show Result.ok (Value.int .i64 (Int.fdiv (m : Int) (2 ^ (min (n : Int).toNat 64)))) w = _
  rw [Int.toNat_natCast, Nat.min_eq_left hn, Int.fdiv_eq_ediv_of_nonneg _ (show (0 : Int) ≤ 2 ^ n from Int.le_of_lt (Int.pow_pos (by decide)))]
  simp
 simp only [execOp, hx, hy, Sem.run_bind, e, Result.andThen_ok, h, Sem.run_pure]
theorem eV {P : Program} {ρ : Operand → Value} {w : World} {d : Option Tmp} {t X Y : TypeId} {x y : Operand} {pos : String} {after : Array Edge} {guard : Option (Nat × Bool)} {m : Nat} (hx : ρ x = .int .i64 (m : Int)) (hy : ρ y = .int .i64 1) : (execOp ρ ⟨d, .binOp .and X x y Y, t, pos, after, guard⟩).run P w = .ok (.value (.int .i64 ((m % 2 : Nat) : Int))) w := by
 refine iW hx hy ?_
 rw [dP _ (by simp)]
 show Result.ok (Value.int .i64 (IntKind.i64.wrap ((BitVec.ofInt 64 (m : Int) &&& BitVec.ofInt 64 (1 : Int)).toNat : Int))) w = _
 have h1 : (BitVec.ofInt 64 (m : Int) &&& BitVec.ofInt 64 (1 : Int)).toNat = m % 2 := by
  rw [BitVec.toNat_and, BitVec.ofInt_natCast, show BitVec.ofInt 64 (1 : Int) = 1#64 from rfl, BitVec.toNat_ofNat, show (1#64).toNat = 1 from rfl, Nat.and_one_is_mod]
  omega
 rw [h1, jN (by omega) (by omega)]
theorem lY (F : Fz) (w : World) (v : Value) (k : Nat) (r : Rq) (hh : Has w) (hv : CF F v k r.name r.key r.last r.value) (ok : RqOk k r) :
    Calls Tryz.prog 41 #[v] w (cY w (.int .i64 0)) := by
 have := sY F w v k r.name r.key r.last r.value ok.kind.1 ok.kind.2 hh hv
 rwa [ok.fits] at this
def Fy (b : By) (F : Fz) (u : Value) : Prop := ∃ x, u = .tuple #[x, .int .i64 0] ∧ Bs F x b
theorem jJ {k : Nat} {r : Rq} (ok : RqOk k r) : ∀ i, i ≤ 4 → (gW (bB k) r i).length ≤ 33 * i := by
 obtain ⟨a1, a2, a3, a4⟩ := ok.lens
 intro i hi
 have h : ∀ j, j < 4 → (r.part j).length ≤ 32 := fun j hj => by
  rcases (by omega : j = 0 ∨ j = 1 ∨ j = 2 ∨ j = 3) with rfl | rfl | rfl | rfl
  ·exact Nat.le_trans a1 (by omega)
  ·exact Nat.le_trans a2 (by omega)
  ·exact Nat.le_trans a3 (by omega)
  ·exact a4
 clear a1 a2 a3 a4
 induction i with
 | zero => simp [gW]
 | succ i ih =>
  have := ih (by omega)
  have := h i (by omega)
  have := tA ((bB k).testBit i) (r.part i)
  simp only [gW, List.length_append]
  omega
theorem zD (F : Fz) (w : World) (v : Value) (k : Nat) (r : Rq) (hs : Sat w F) (hh : Has w) (hv : CF F v k r.name r.key r.last r.value) (ok : RqOk k r) :
    Calls Tryz.prog 31 #[v] w (dO w F (Fy (cH k r))) := by
 have hk := ok.kind
 obtain ⟨a1, a2, a3, a4⟩ := ok.lens
 obtain ⟨_, _, _, _, rfl, h0, h1, h2, h3⟩ := hv
 obtain ⟨x0, y0, rfl, _⟩ := h0.shape
 obtain ⟨x1, y1, rfl, _⟩ := h1.shape
 obtain ⟨x2, y2, rfl, _⟩ := h2.shape
 obtain ⟨x3, y3, rfl, _⟩ := h3.shape
 obtain ⟨i5, hi5, hz5, hs5, hb5⟩ := info_parts qH
 have S := St.start hs
 go_enter Tryz.func31, Tryz.ntmps31
 refine sk fun K1 hK1 => ?_
 refine aZ S (v := fun n => .pointer (aA n 0)) rfl (bW (v := (.agg #[(nI k), (.slice x0 r.name.length y0), (.slice x1 r.key.length y1), (.slice x2 r.last.length y2), (.slice x3 r.value.length y3)])) rfl) (fun n2 w3 S4 => ?_)
 iterate 2 refine dy ?_
 refine wn hK1 ?_
 refine aF fun K5 hK5 => ?_
 refine sk fun K6 hK6 => ?_
 refine dR S4 0 Tryz.underlying27 (bP) ?_
 simp only [pq]
 refine aL (v := (iI 0)) S4 rfl (fn1 (GQ _ _)) (lY _ _ _ k r (hh.below S4.gr.below) ⟨_, _, _, _, rfl, h0, h1, h2, h3⟩ ok) (fun w7 S8 => ?_)
 refine dy ?_
 refine wn hK6 ?_
 refine sk fun K9 hK9 => ?_
 refine dx ?_
 refine dr bF (cC (m := (0 : Int)) (n := (0 : Int)) (b := false) rfl rfl (bne_eq_false_iff_eq.2 (rfl))) ?_
 simp only [pq]
 refine wn hK9 ?_
 refine aG ?_
 refine aI ?_
 refine hK5 _ _ ?_
 refine sk fun g0 b7 => ?_
 refine aC ?_
 refine dr (bv (b8 k)) (aX (v := (nI k)) rfl (kD k _)) ?_
 simp only [pq]
 refine aZ S8 (v := fun n => .slice (aA n 0) 1 1) rfl (bS (ps := #[(0, (bv (b8 k)))]) (cells := #[(bv (b8 k))]) (E := 5) (cG rfl) (fun w => by kernel_rfl)) (fun b9 e1 d2 => ?_)
 refine dy ?_
 refine wn b7 ?_
 refine aF fun g1 c0 => ?_
 refine sk fun g2 c1 => ?_
 refine aC ?_
 refine dr (.agg #[(.slice x0 r.name.length y0), (.slice x1 r.key.length y1), (.slice x2 r.last.length y2), (.slice x3 r.value.length y3)]) (aJ (mE rfl rfl rfl rfl) (by kernel_rfl)) ?_
 simp only [pq]
 refine dx ?_
 refine wn c1 ?_
 refine aM ?_
 have e2 : St w F e1 F [⟨n2, [(nI k), (.slice x0 r.name.length y0), (.slice x1 r.key.length y1), (.slice x2 r.last.length y2), (.slice x3 r.value.length y3)], 27⟩] [bV 1 ByC ByC.mono 5 w.heap.size (.slice (aA b9 0) 1 1) [b8 k]] := St.blkRow (k := 1) (l := [b8 k]) (el := [[(bv (b8 k))]]) (hR := ByC.mono) d2 rfl ⟨rfl, trivial⟩ (by simp) rfl (by simp) (by unfold maxLen; decide) (d2.blk _ (List.mem_cons_self ..)).2.2
 refine aW (fun mm aa e3 => ∃ (i : Nat) (v : Value) (a9 : Fz) (b1 : Nat → Value), mm = 4 - i ∧ b1 = dY aa ∧ aa = ⟨([(.agg #[(nI k), (.slice x0 r.name.length y0), (.slice x1 r.key.length y1), (.slice x2 r.last.length y2), (.slice x3 r.value.length y3)]), (pP n2 0), Zn, (iI 0), (iI 0), v, (b1 6), (b1 7), (.agg #[(nI k), (.slice x0 r.name.length y0), (.slice x1 r.key.length y1), (.slice x2 r.last.length y2), (.slice x3 r.value.length y3)]), (iI 0), (iI 0), bF, undef, (pP n2 0), (nI k), (bv (b8 k)), (.slice (aA b9 0) 1 1), (pP n2 1), (.slice x0 r.name.length y0), (pP n2 2), (.slice x1 r.key.length y1), (pP n2 3), (.slice x2 r.last.length y2), (pP n2 4), (.slice x3 r.value.length y3), (.agg #[(.slice x0 r.name.length y0), (.slice x1 r.key.length y1), (.slice x2 r.last.length y2), (.slice x3 r.value.length y3)]), (nI i)] ++ (usF b1 27 20 [undef])).toArray, []⟩ ∧ St w F e3 a9 [⟨n2, [(nI k), (.slice x0 r.name.length y0), (.slice x1 r.key.length y1), (.slice x2 r.last.length y2), (.slice x3 r.value.length y3)], 27⟩] [bV 1 ByC ByC.mono 5 w.heap.size v (b8 k :: gW (bB k) r i)] ∧ Le F a9 ∧ (i ≤ 4)) _ ⟨0, (.slice (aA b9 0) 1 1), F, _, rfl, rfl, rfl, e2, Le.refl _, (by omega)⟩ ?_
 rintro g3 g4 g5 ⟨i, v, a9, b1, rfl, -, hfr, a5, a0, hi4⟩ g6 a6
 simp only [uzF, Nat.reduceAdd] at hfr; subst hfr
 refine sk fun g7 b2 => ?_
 by_cases e4 : i < 4
 ·refine fA ?_
  refine wn b2 ?_
  refine aF fun g8 c2 => ?_
  refine aK ?_
  refine aI ?_
  refine c2 _ _ ?_
  refine aF fun g9 a7 => ?_
  refine aM ?_
  refine aF fun h5 a8 => ?_
  rcases (by omega : i = 0 ∨ i = 1 ∨ i = 2 ∨ i = 3) with h4 | h4 | h4 | h4
  ·by_cases he : (bB k).testBit i = true
   ·have hx := pB he
    have hpl := jJ ok i (by omega)
    refine aB ?_
    refine dx ?_
    refine dr (.slice x0 r.name.length y0) (eU (i := i) Tryz.underlying91 (iV _) rfl rfl (by omega) (bD _) (by rw [h4]; rfl)) ?_
    refine aC ?_
    refine wlK a8 ?_
    refine sk fun h6 c3 => ?_
    refine aC ?_
    refine dr (pP 0 k) (fP (i := k) Tryz.underlying92 (eR _) rfl rfl (by omega)) ?_
    simp only [pq]
    refine dr _ (aE rfl (aT (bU _) (jT (hh.below a5.gr.below) hk))) ?_
    refine dx ?_
    refine dr (nI ((bB k) / 2 ^ i)) (hY (m := (bB k)) (n := i) rfl rfl (by omega)) ?_
    simp only [pq]
    refine dr (.int .i64 (((((bB k) / 2 ^ i) % 2) : Nat) : Int)) (eV (m := ((bB k) / 2 ^ i)) rfl rfl) ?_
    refine dr bT (cB (m := (((((bB k) / 2 ^ i) % 2) : Nat) : Int)) (n := (1 : Int)) (b := true) rfl rfl (beq_iff_eq.2 (by rw [hx]; rfl))) ?_
    refine wn c3 ?_
    refine aK ?_
    refine aB ?_
    refine aC ?_
    refine dr (bv (b8 r.name.length)) (aX (v := (nI r.name.length)) rfl (kD r.name.length _)) ?_
    refine aZ a5 (v := fun n => .slice (aA n 0) 1 1) rfl (bS (ps := #[(0, (bv (b8 r.name.length)))]) (cells := #[(bv (b8 r.name.length))]) (E := 5) (cG rfl) (fun w => by kernel_rfl)) (fun h7 h8 d3 => ?_)
    refine eK (i := 0) (r := 0) (p := (b8 r.name.length)) (cs := [(bv (b8 r.name.length))]) d3 rfl i5 (.int .u8 0) 1 Tryz.underlying25 hi5 hz5 hs5 hb5 rfl (by decide) rfl rfl rfl rfl rfl (rB (b8 r.name.length)) (rfl) (Nat.le_refl _) d3.gr.below.size (by unfold maxLen; simp only [List.length_cons, List.length_append]; omega) (by simp only [List.length_cons, List.length_append]; omega) ?_
    intro h9 i0 b3 e5
    simp only [pq]
    have b3 := St.drop b3 (.cons _ (List.Sublist.refl _))
    refine dx ?_
    refine eG (r := 0) (u := (.slice x0 r.name.length y0)) b3 rfl i5 (.int .u8 0) 1 Tryz.underlying25 hi5 hz5 hs5 hb5 rfl (by decide) rfl rfl rfl (Sl.toW (Bs.sl (h0.mono a0)) (b3).sat) ByC.one (Nat.le_refl _) b3.gr.below.size (by unfold maxLen; simp only [List.length_cons, List.length_append, List.length_nil]; omega) (by simp only [List.length_cons, List.length_append, List.length_nil]; omega) ?_
    intro e6 i1 d4 e7
    refine dy ?_
    refine wlK a7 ?_
    rw [show (((b8 k :: gW (bB k) r i) ++ [(b8 r.name.length)]) ++ r.name) = b8 k :: gW (bB k) r (i + 1) from by rw [rH r he, h4]; simp [Rq.part]] at d4
    refine aB ?_
    refine cD (i + 1) ?_
    refine dx ?_
    simp only [pq]
    refine aH ?_
    exact a6 _ _ _ (by omega) ⟨(i + 1), e6, a9, _, rfl, rfl, rfl, d4, a0, (by omega)⟩
   ·have he : (bB k).testBit i = false := by simpa using he
    have hx := tB he
    have hpl := jJ ok i (by omega)
    refine aB ?_
    refine dx ?_
    refine dr (.slice x0 r.name.length y0) (eU (i := i) Tryz.underlying91 (iV _) rfl rfl (by omega) (bD _) (by rw [h4]; rfl)) ?_
    refine aC ?_
    refine wlK a8 ?_
    refine sk fun i2 c4 => ?_
    refine aC ?_
    refine dr (pP 0 k) (fP (i := k) Tryz.underlying92 (eR _) rfl rfl (by omega)) ?_
    simp only [pq]
    refine dr _ (aE rfl (aT (bU _) (jT (hh.below a5.gr.below) hk))) ?_
    refine dx ?_
    refine dr (nI ((bB k) / 2 ^ i)) (hY (m := (bB k)) (n := i) rfl rfl (by omega)) ?_
    simp only [pq]
    refine dr (.int .i64 (((((bB k) / 2 ^ i) % 2) : Nat) : Int)) (eV (m := ((bB k) / 2 ^ i)) rfl rfl) ?_
    refine dr bF (cB (m := (((((bB k) / 2 ^ i) % 2) : Nat) : Int)) (n := (1 : Int)) (b := false) rfl rfl (beq_eq_false_iff_ne.2 (by rw [hx]; decide))) ?_
    refine wn c4 ?_
    refine aG ?_
    refine aI ?_
    refine a7 _ _ ?_
    rw [← tX r he] at a5
    refine aB ?_
    refine cD (i + 1) ?_
    refine dx ?_
    simp only [pq]
    refine aH ?_
    exact a6 _ _ _ (by omega) ⟨(i + 1), v, a9, _, rfl, rfl, rfl, a5, a0, (by omega)⟩
  ·by_cases he : (bB k).testBit i = true
   ·have hx := pB he
    have hpl := jJ ok i (by omega)
    refine aB ?_
    refine dx ?_
    refine dr (.slice x1 r.key.length y1) (eU (i := i) Tryz.underlying91 (iV _) rfl rfl (by omega) (bD _) (by rw [h4]; rfl)) ?_
    refine aC ?_
    refine wlK a8 ?_
    refine sk fun i3 c5 => ?_
    refine aC ?_
    refine dr (pP 0 k) (fP (i := k) Tryz.underlying92 (eR _) rfl rfl (by omega)) ?_
    simp only [pq]
    refine dr _ (aE rfl (aT (bU _) (jT (hh.below a5.gr.below) hk))) ?_
    refine dx ?_
    refine dr (nI ((bB k) / 2 ^ i)) (hY (m := (bB k)) (n := i) rfl rfl (by omega)) ?_
    simp only [pq]
    refine dr (.int .i64 (((((bB k) / 2 ^ i) % 2) : Nat) : Int)) (eV (m := ((bB k) / 2 ^ i)) rfl rfl) ?_
    refine dr bT (cB (m := (((((bB k) / 2 ^ i) % 2) : Nat) : Int)) (n := (1 : Int)) (b := true) rfl rfl (beq_iff_eq.2 (by rw [hx]; rfl))) ?_
    refine wn c5 ?_
    refine aK ?_
    refine aB ?_
    refine aC ?_
    refine dr (bv (b8 r.key.length)) (aX (v := (nI r.key.length)) rfl (kD r.key.length _)) ?_
    refine aZ a5 (v := fun n => .slice (aA n 0) 1 1) rfl (bS (ps := #[(0, (bv (b8 r.key.length)))]) (cells := #[(bv (b8 r.key.length))]) (E := 5) (cG rfl) (fun w => by kernel_rfl)) (fun i4 i6 d5 => ?_)
    refine eK (i := 0) (r := 0) (p := (b8 r.key.length)) (cs := [(bv (b8 r.key.length))]) d5 rfl i5 (.int .u8 0) 1 Tryz.underlying25 hi5 hz5 hs5 hb5 rfl (by decide) rfl rfl rfl rfl rfl (rB (b8 r.key.length)) (rfl) (Nat.le_refl _) d5.gr.below.size (by unfold maxLen; simp only [List.length_cons, List.length_append]; omega) (by simp only [List.length_cons, List.length_append]; omega) ?_
    intro i7 i8 b4 e8
    simp only [pq]
    have b4 := St.drop b4 (.cons _ (List.Sublist.refl _))
    refine dx ?_
    refine eG (r := 0) (u := (.slice x1 r.key.length y1)) b4 rfl i5 (.int .u8 0) 1 Tryz.underlying25 hi5 hz5 hs5 hb5 rfl (by decide) rfl rfl rfl (Sl.toW (Bs.sl (h1.mono a0)) (b4).sat) ByC.one (Nat.le_refl _) b4.gr.below.size (by unfold maxLen; simp only [List.length_cons, List.length_append, List.length_nil]; omega) (by simp only [List.length_cons, List.length_append, List.length_nil]; omega) ?_
    intro e9 i9 d6 f0
    refine dy ?_
    refine wlK a7 ?_
    rw [show (((b8 k :: gW (bB k) r i) ++ [(b8 r.key.length)]) ++ r.key) = b8 k :: gW (bB k) r (i + 1) from by rw [rH r he, h4]; simp [Rq.part]] at d6
    refine aB ?_
    refine cD (i + 1) ?_
    refine dx ?_
    simp only [pq]
    refine aH ?_
    exact a6 _ _ _ (by omega) ⟨(i + 1), e9, a9, _, rfl, rfl, rfl, d6, a0, (by omega)⟩
   ·have he : (bB k).testBit i = false := by simpa using he
    have hx := tB he
    have hpl := jJ ok i (by omega)
    refine aB ?_
    refine dx ?_
    refine dr (.slice x1 r.key.length y1) (eU (i := i) Tryz.underlying91 (iV _) rfl rfl (by omega) (bD _) (by rw [h4]; rfl)) ?_
    refine aC ?_
    refine wlK a8 ?_
    refine sk fun j0 c6 => ?_
    refine aC ?_
    refine dr (pP 0 k) (fP (i := k) Tryz.underlying92 (eR _) rfl rfl (by omega)) ?_
    simp only [pq]
    refine dr _ (aE rfl (aT (bU _) (jT (hh.below a5.gr.below) hk))) ?_
    refine dx ?_
    refine dr (nI ((bB k) / 2 ^ i)) (hY (m := (bB k)) (n := i) rfl rfl (by omega)) ?_
    simp only [pq]
    refine dr (.int .i64 (((((bB k) / 2 ^ i) % 2) : Nat) : Int)) (eV (m := ((bB k) / 2 ^ i)) rfl rfl) ?_
    refine dr bF (cB (m := (((((bB k) / 2 ^ i) % 2) : Nat) : Int)) (n := (1 : Int)) (b := false) rfl rfl (beq_eq_false_iff_ne.2 (by rw [hx]; decide))) ?_
    refine wn c6 ?_
    refine aG ?_
    refine aI ?_
    refine a7 _ _ ?_
    rw [← tX r he] at a5
    refine aB ?_
    refine cD (i + 1) ?_
    refine dx ?_
    simp only [pq]
    refine aH ?_
    exact a6 _ _ _ (by omega) ⟨(i + 1), v, a9, _, rfl, rfl, rfl, a5, a0, (by omega)⟩
  ·by_cases he : (bB k).testBit i = true
   ·have hx := pB he
    have hpl := jJ ok i (by omega)
    refine aB ?_
    refine dx ?_
    refine dr (.slice x2 r.last.length y2) (eU (i := i) Tryz.underlying91 (iV _) rfl rfl (by omega) (bD _) (by rw [h4]; rfl)) ?_
    refine aC ?_
    refine wlK a8 ?_
    refine sk fun j1 c7 => ?_
    refine aC ?_
    refine dr (pP 0 k) (fP (i := k) Tryz.underlying92 (eR _) rfl rfl (by omega)) ?_
    simp only [pq]
    refine dr _ (aE rfl (aT (bU _) (jT (hh.below a5.gr.below) hk))) ?_
    refine dx ?_
    refine dr (nI ((bB k) / 2 ^ i)) (hY (m := (bB k)) (n := i) rfl rfl (by omega)) ?_
    simp only [pq]
    refine dr (.int .i64 (((((bB k) / 2 ^ i) % 2) : Nat) : Int)) (eV (m := ((bB k) / 2 ^ i)) rfl rfl) ?_
    refine dr bT (cB (m := (((((bB k) / 2 ^ i) % 2) : Nat) : Int)) (n := (1 : Int)) (b := true) rfl rfl (beq_iff_eq.2 (by rw [hx]; rfl))) ?_
    refine wn c7 ?_
    refine aK ?_
    refine aB ?_
    refine aC ?_
    refine dr (bv (b8 r.last.length)) (aX (v := (nI r.last.length)) rfl (kD r.last.length _)) ?_
    refine aZ a5 (v := fun n => .slice (aA n 0) 1 1) rfl (bS (ps := #[(0, (bv (b8 r.last.length)))]) (cells := #[(bv (b8 r.last.length))]) (E := 5) (cG rfl) (fun w => by kernel_rfl)) (fun j2 j3 d7 => ?_)
    refine eK (i := 0) (r := 0) (p := (b8 r.last.length)) (cs := [(bv (b8 r.last.length))]) d7 rfl i5 (.int .u8 0) 1 Tryz.underlying25 hi5 hz5 hs5 hb5 rfl (by decide) rfl rfl rfl rfl rfl (rB (b8 r.last.length)) (rfl) (Nat.le_refl _) d7.gr.below.size (by unfold maxLen; simp only [List.length_cons, List.length_append]; omega) (by simp only [List.length_cons, List.length_append]; omega) ?_
    intro j4 j5 b5 f1
    simp only [pq]
    have b5 := St.drop b5 (.cons _ (List.Sublist.refl _))
    refine dx ?_
    refine eG (r := 0) (u := (.slice x2 r.last.length y2)) b5 rfl i5 (.int .u8 0) 1 Tryz.underlying25 hi5 hz5 hs5 hb5 rfl (by decide) rfl rfl rfl (Sl.toW (Bs.sl (h2.mono a0)) (b5).sat) ByC.one (Nat.le_refl _) b5.gr.below.size (by unfold maxLen; simp only [List.length_cons, List.length_append, List.length_nil]; omega) (by simp only [List.length_cons, List.length_append, List.length_nil]; omega) ?_
    intro f2 j6 d8 f3
    refine dy ?_
    refine wlK a7 ?_
    rw [show (((b8 k :: gW (bB k) r i) ++ [(b8 r.last.length)]) ++ r.last) = b8 k :: gW (bB k) r (i + 1) from by rw [rH r he, h4]; simp [Rq.part]] at d8
    refine aB ?_
    refine cD (i + 1) ?_
    refine dx ?_
    simp only [pq]
    refine aH ?_
    exact a6 _ _ _ (by omega) ⟨(i + 1), f2, a9, _, rfl, rfl, rfl, d8, a0, (by omega)⟩
   ·have he : (bB k).testBit i = false := by simpa using he
    have hx := tB he
    have hpl := jJ ok i (by omega)
    refine aB ?_
    refine dx ?_
    refine dr (.slice x2 r.last.length y2) (eU (i := i) Tryz.underlying91 (iV _) rfl rfl (by omega) (bD _) (by rw [h4]; rfl)) ?_
    refine aC ?_
    refine wlK a8 ?_
    refine sk fun j7 c8 => ?_
    refine aC ?_
    refine dr (pP 0 k) (fP (i := k) Tryz.underlying92 (eR _) rfl rfl (by omega)) ?_
    simp only [pq]
    refine dr _ (aE rfl (aT (bU _) (jT (hh.below a5.gr.below) hk))) ?_
    refine dx ?_
    refine dr (nI ((bB k) / 2 ^ i)) (hY (m := (bB k)) (n := i) rfl rfl (by omega)) ?_
    simp only [pq]
    refine dr (.int .i64 (((((bB k) / 2 ^ i) % 2) : Nat) : Int)) (eV (m := ((bB k) / 2 ^ i)) rfl rfl) ?_
    refine dr bF (cB (m := (((((bB k) / 2 ^ i) % 2) : Nat) : Int)) (n := (1 : Int)) (b := false) rfl rfl (beq_eq_false_iff_ne.2 (by rw [hx]; decide))) ?_
    refine wn c8 ?_
    refine aG ?_
    refine aI ?_
    refine a7 _ _ ?_
    rw [← tX r he] at a5
    refine aB ?_
    refine cD (i + 1) ?_
    refine dx ?_
    simp only [pq]
    refine aH ?_
    exact a6 _ _ _ (by omega) ⟨(i + 1), v, a9, _, rfl, rfl, rfl, a5, a0, (by omega)⟩
  ·by_cases he : (bB k).testBit i = true
   ·have hx := pB he
    have hpl := jJ ok i (by omega)
    refine aB ?_
    refine dx ?_
    refine dr (.slice x3 r.value.length y3) (eU (i := i) Tryz.underlying91 (iV _) rfl rfl (by omega) (bD _) (by rw [h4]; rfl)) ?_
    refine aC ?_
    refine wlK a8 ?_
    refine sk fun j8 c9 => ?_
    refine aC ?_
    refine dr (pP 0 k) (fP (i := k) Tryz.underlying92 (eR _) rfl rfl (by omega)) ?_
    simp only [pq]
    refine dr _ (aE rfl (aT (bU _) (jT (hh.below a5.gr.below) hk))) ?_
    refine dx ?_
    refine dr (nI ((bB k) / 2 ^ i)) (hY (m := (bB k)) (n := i) rfl rfl (by omega)) ?_
    simp only [pq]
    refine dr (.int .i64 (((((bB k) / 2 ^ i) % 2) : Nat) : Int)) (eV (m := ((bB k) / 2 ^ i)) rfl rfl) ?_
    refine dr bT (cB (m := (((((bB k) / 2 ^ i) % 2) : Nat) : Int)) (n := (1 : Int)) (b := true) rfl rfl (beq_iff_eq.2 (by rw [hx]; rfl))) ?_
    refine wn c9 ?_
    refine aK ?_
    refine aB ?_
    refine aC ?_
    refine dr (bv (b8 r.value.length)) (aX (v := (nI r.value.length)) rfl (kD r.value.length _)) ?_
    refine aZ a5 (v := fun n => .slice (aA n 0) 1 1) rfl (bS (ps := #[(0, (bv (b8 r.value.length)))]) (cells := #[(bv (b8 r.value.length))]) (E := 5) (cG rfl) (fun w => by kernel_rfl)) (fun j9 k0 d9 => ?_)
    refine eK (i := 0) (r := 0) (p := (b8 r.value.length)) (cs := [(bv (b8 r.value.length))]) d9 rfl i5 (.int .u8 0) 1 Tryz.underlying25 hi5 hz5 hs5 hb5 rfl (by decide) rfl rfl rfl rfl rfl (rB (b8 r.value.length)) (rfl) (Nat.le_refl _) d9.gr.below.size (by unfold maxLen; simp only [List.length_cons, List.length_append]; omega) (by simp only [List.length_cons, List.length_append]; omega) ?_
    intro k1 k2 b6 f4
    simp only [pq]
    have b6 := St.drop b6 (.cons _ (List.Sublist.refl _))
    refine dx ?_
    refine eG (r := 0) (u := (.slice x3 r.value.length y3)) b6 rfl i5 (.int .u8 0) 1 Tryz.underlying25 hi5 hz5 hs5 hb5 rfl (by decide) rfl rfl rfl (Sl.toW (Bs.sl (h3.mono a0)) (b6).sat) ByC.one (Nat.le_refl _) b6.gr.below.size (by unfold maxLen; simp only [List.length_cons, List.length_append, List.length_nil]; omega) (by simp only [List.length_cons, List.length_append, List.length_nil]; omega) ?_
    intro f5 k3 e0 f6
    refine dy ?_
    refine wlK a7 ?_
    rw [show (((b8 k :: gW (bB k) r i) ++ [(b8 r.value.length)]) ++ r.value) = b8 k :: gW (bB k) r (i + 1) from by rw [rH r he, h4]; simp [Rq.part]] at e0
    refine aB ?_
    refine cD (i + 1) ?_
    refine dx ?_
    simp only [pq]
    refine aH ?_
    exact a6 _ _ _ (by omega) ⟨(i + 1), f5, a9, _, rfl, rfl, rfl, e0, a0, (by omega)⟩
   ·have he : (bB k).testBit i = false := by simpa using he
    have hx := tB he
    have hpl := jJ ok i (by omega)
    refine aB ?_
    refine dx ?_
    refine dr (.slice x3 r.value.length y3) (eU (i := i) Tryz.underlying91 (iV _) rfl rfl (by omega) (bD _) (by rw [h4]; rfl)) ?_
    refine aC ?_
    refine wlK a8 ?_
    refine sk fun k4 d0 => ?_
    refine aC ?_
    refine dr (pP 0 k) (fP (i := k) Tryz.underlying92 (eR _) rfl rfl (by omega)) ?_
    simp only [pq]
    refine dr _ (aE rfl (aT (bU _) (jT (hh.below a5.gr.below) hk))) ?_
    refine dx ?_
    refine dr (nI ((bB k) / 2 ^ i)) (hY (m := (bB k)) (n := i) rfl rfl (by omega)) ?_
    simp only [pq]
    refine dr (.int .i64 (((((bB k) / 2 ^ i) % 2) : Nat) : Int)) (eV (m := ((bB k) / 2 ^ i)) rfl rfl) ?_
    refine dr bF (cB (m := (((((bB k) / 2 ^ i) % 2) : Nat) : Int)) (n := (1 : Int)) (b := false) rfl rfl (beq_eq_false_iff_ne.2 (by rw [hx]; decide))) ?_
    refine wn d0 ?_
    refine aG ?_
    refine aI ?_
    refine a7 _ _ ?_
    rw [← tX r he] at a5
    refine aB ?_
    refine cD (i + 1) ?_
    refine dx ?_
    simp only [pq]
    refine aH ?_
    exact a6 _ _ _ (by omega) ⟨(i + 1), v, a9, _, rfl, rfl, rfl, a5, a0, (by omega)⟩
 ·refine eM ?_
  refine wn b2 ?_
  refine aF fun k5 f7 => ?_
  refine aG ?_
  refine cS ?_
  refine c0 _ _ ?_
  refine sk fun k6 d1 => ?_
  refine aC ?_
  refine wn d1 ?_
  refine aO ?_
  try simp only [xt]
  refine bR (cI rfl (gD rfl) (gD rfl)) ?_
  ·have hi5 : i = 4 := by omega
   subst hi5
   rw [OC] at a5
   obtain ⟨k7, f8, f9, b0⟩ := St.freeze a5 (i := 0) rfl (Nat.le_refl _)
   have b0 : Bys _ v (b8 k :: FW (bB k) r) := b0
   exact ⟨_, _, rfl, f8.gr, _, rfl, eA b0⟩
end Go.Proofs.YtilgpdpooildcaaGreatDoor
