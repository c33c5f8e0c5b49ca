/- Rules, plain laws and walks: F1 F2 F3 F4 K4 K5 K6 S8 S9 S10 MH -/
import Derived.Test.YtilgpdpooildcaaGreatDoorDA4
import Derived.Test.YtilgpdpooildcaaGreatDoorDA2
import Derived.Test.YtilgpdpooildcaaGreatDoorDA3
import Derived.OrdersHeld
namespace Go.Proofs.YtilgpdpooildcaaGreatDoor
set_option maxHeartbeats 8000000
open Go.RowKit
set_option maxRecDepth 100000
set_option linter.unusedVariables false
set_option linter.unusedSimpArgs false
theorem xQ (F : Fz) (w : World) (v u : Value) (t : By × List Pr) (k : By) (hs : Sat w F) (hv : TnV F v t) (hu : Bs F u k) :
    Calls Tryz.prog 61 #[v, u] w (cU w (.int .i64 (eY t.1 k))) := by
 obtain ⟨x0, y0, x1, y1, rfl, h0, h1⟩ := hv
 obtain ⟨a2, c2, rfl, _⟩ := hu.shape
 have S := St.start hs
 go_enter Tryz.func61, Tryz.ntmps61
 refine sk fun K1 hK1 => ?_
 refine bD S (v := fun n => .pointer (aA n 0)) rfl (cB (v := (.agg #[(.slice x0 t.1.length y0), (.slice x1 t.2.length y1)])) rfl) (fun n2 w3 S4 => ?_)
 refine dy ?_
 refine wn hK1 ?_
 refine sk fun K5 hK5 => ?_
 refine aC ?_
 refine aI (v := (.int .i64 (eY t.1 k))) S4 rfl (fn2 (vX _ _)) (fA _ _ _ _ t.1 k (S4).sat h0 hu) (fun w6 S7 => ?_)
 refine dy ?_
 refine wn hK5 ?_
 refine aP ?_
 try simp only [xt]
 refine bR (bK rfl (gD rfl)) ?_
 exact ⟨rfl, S7.gr.below⟩
theorem GJ (F : Fz) (w : World) (v u : Value) (l : aO) (k : By) (hs : Sat w F) (hv : Tns F v l) (hu : Bs F u k) (hr : fS l) (hl : l.length ≤ 1000000) :
    Calls Tryz.prog 60 #[v, u, .func (.func 61) #[] #[]] w (cU w (.tuple #[.int .i64 (aU l k : Nat), .bool (fD l k)])) := by
 obtain ⟨a, c, rfl, hc1, hc2⟩ := Sl.shape hv
 obtain ⟨a2, c2, rfl, _⟩ := hu.shape
 unfold maxLen at hc2
 have S := St.start hs
 go_enter Tryz.func60, Tryz.ntmps60
 refine sk fun K1 hK1 => ?_
 iterate 2 refine dy ?_
 refine wn hK1 ?_
 refine sk fun K2 hK2 => ?_
 refine aC ?_
 refine wn hK2 ?_
 refine sk fun K3 hK3 => ?_
 refine aC ?_
 refine wn hK3 ?_
 refine aE fun K4 hK4 => ?_
 refine aM ?_
 refine bA (fun mm aa w6 => ∃ (i : Nat) (j : Nat) (u5 : Nat → Value), mm = j - i ∧ u5 = dV aa ∧ aa = ⟨([(.slice a l.length c), (.slice a2 k.length c2), (.func (.func 61) #[] #[]), undef, undef, undef, (iI 0), bF, (nI l.length), (nI i), (nI j), (u5 11), (.slice a l.length c), (nI l.length), (nI l.length)] ++ (usF u5 15 20 (udF 14 []))).toArray, []⟩ ∧ St w F w6 F [] [] ∧ (i ≤ j) ∧ (j ≤ l.length) ∧ (i ≤ aU l k) ∧ (aU l k ≤ j)) _ ⟨0, l.length, _, rfl, rfl, rfl, S, (by omega), (by omega), (by omega), (kE _ _ _)⟩ ?_
 rintro m7 a8 w9 ⟨i, j, u5, rfl, -, hfr, a0, hij, hj, hip, hjp⟩ d8 a4
 simp only [uzF, Nat.reduceAdd] at hfr; subst hfr
 refine aE fun d9 b7 => ?_
 refine sk fun e0 a5 => ?_
 refine aC ?_
 by_cases c5 : i < j
 ·refine eZ ?_
  refine wn a5 ?_
  refine aJ ?_
  refine aH ?_
  refine b7 _ _ ?_
  refine aM ?_
  refine sk fun e1 b9 => ?_
  iterate 2 refine dx ?_
  refine cO (i + j) ?_
  simp only [pq]
  refine dr (.int .u64 (((i + j) : Nat) : Int)) (bB (v := (nI (i + j))) rfl (UL (i + j) (by omega) _)) ?_
  refine dr (.int .u64 (((i + j) / 2 : Nat) : Int)) (Ag (.inl rfl) rfl rfl (Af (i + j) _ _)) ?_
  refine dr (.int .i64 (((i + j) / 2 : Nat) : Int)) (bB (v := (.int .u64 (((i + j) / 2 : Nat) : Int))) rfl (UM ((i + j) / 2) (by omega) _)) ?_
  simp only [pq]
  refine dy ?_
  refine wn b9 ?_
  refine aE fun e3 a6 => ?_
  obtain ⟨t, hp⟩ : ∃ t, l[(i + j) / 2]? = some t := ⟨l[(i + j) / 2], List.getElem?_eq_getElem (by omega)⟩
  obtain ⟨c6, c7, c0, a7, a9, b0, b1, c8, c9, d0, d1⟩ := Tns.get hv hp
  refine aB ?_
  refine aC ?_
  refine dr (pP c6 (c7 + ((i + j) / 2) * 2)) (bP (i := (i + j) / 2) (sz := 2) Tryz.underlying24 (cX _) rfl c0 rfl (by omega) rfl) ?_
  refine dr _ (aD rfl (cN Tryz.underlying66 rfl (jL) (kC (St.fz a0 c8) (St.fz a0 c9)))) ?_
  refine dx ?_
  simp only [pq]
  refine aI (v := (.int .i64 (eY t.1 k))) a0 rfl (qQ (fs := #[]) (cs := #[]) (vs := #[(.agg #[(.slice a7 t.1.length a9), (.slice b0 t.2.length b1)]), (.slice a2 k.length c2)]) rfl (yX (fs := #[]) (cs := #[]) (xs := #[(.agg #[(.slice a7 t.1.length a9), (.slice b0 t.2.length b1)]), (.slice a2 k.length c2)]) (iD rfl rfl) (by simp)) (ZZ _ _)) (xQ _ _ _ _ t k (a0).sat ⟨_, _, _, _, rfl, d0, d1⟩ hu) (fun e4 c3 => ?_)
  simp only [pq]
  by_cases a1 : (eY t.1 k) < (0 : Int)
  ·refine eZ ?_
   refine wlK a6 ?_
   refine aJ ?_
   refine aB ?_
   refine dx ?_
   refine cO ((((i + j) / 2 + 1) : Nat) : Int) ?_
   refine dy ?_
   simp only [pq]
   refine aG ?_
   exact a4 _ _ _ (by omega) ⟨((i + j) / 2 + 1), j, _, rfl, rfl, rfl, c3, (by have := KV hr hp a1; omega), (by omega), (KV hr hp a1), (by omega)⟩
  ·refine eT ?_
   refine wlK a6 ?_
   refine aF ?_
   refine aB ?_
   refine aC ?_
   refine aG ?_
   exact a4 _ _ _ (by omega) ⟨i, (i + j) / 2, _, rfl, rfl, rfl, c3, (by omega), (by omega), (by omega), (Ah hp a1)⟩
 ·refine eT ?_
  refine wn a5 ?_
  refine aF ?_
  refine cV ?_
  refine hK4 _ _ ?_
  refine aE fun e5 a3 => ?_
  have hip2 : aU l k = i := by omega
  by_cases h0 : i < l.length
  ·obtain ⟨t, hp⟩ : ∃ t, l[i]? = some t := ⟨l[i], List.getElem?_eq_getElem h0⟩
   obtain ⟨d2, d3, c1, b2, b3, b4, b5, d4, d5, d6, d7⟩ := Tns.get hv hp
   refine aB ?_
   refine aC ?_
   refine eZ ?_
   refine aC ?_
   refine dr (pP d2 (d3 + i * 2)) (bP (i := i) (sz := 2) Tryz.underlying24 (cX _) rfl c1 rfl (by omega) rfl) ?_
   simp only [pq]
   refine dr _ (aD rfl (cN Tryz.underlying66 rfl (jL) (kC (St.fz a0 d4) (St.fz a0 d5)))) ?_
   refine dx ?_
   refine aI (v := (.int .i64 (eY t.1 k))) a0 rfl (qQ (fs := #[]) (cs := #[]) (vs := #[(.agg #[(.slice b2 t.1.length b3), (.slice b4 t.2.length b5)]), (.slice a2 k.length c2)]) rfl (yX (fs := #[]) (cs := #[]) (xs := #[(.agg #[(.slice b2 t.1.length b3), (.slice b4 t.2.length b5)]), (.slice a2 k.length c2)]) (iD rfl rfl) (by simp)) (ZZ _ _)) (xQ _ _ _ _ t k (a0).sat ⟨_, _, _, _, rfl, d6, d7⟩ hu) (fun e6 c4 => ?_)
   simp only [pq]
   by_cases b6 : (eY t.1 k) = (0 : Int)
   ·refine iQ ?_
    refine aC ?_
    refine wlK a3 ?_
    refine aP ?_
    try simp only [xt]
    refine bR (cC rfl (gD rfl) (gD rfl)) ?_
    ·have e2 := UN hr (by rw [hip2]; exact hp) b6
     exact ⟨by rw [e2, hip2], c4.gr.below⟩
   ·refine gB ?_
    refine aC ?_
    refine wlK a3 ?_
    refine aP ?_
    try simp only [xt]
    refine bR (cC rfl (gD rfl) (gD rfl)) ?_
    ·have e2 := RO hr (by rw [hip2]; exact hp) b6
     exact ⟨by rw [e2, hip2], c4.gr.below⟩
  ·refine aB ?_
   refine aC ?_
   refine eT ?_
   refine aC ?_
   refine wlK a3 ?_
   refine aP ?_
   try simp only [xt]
   refine bR (cC rfl (gD rfl) (gD rfl)) ?_
   ·have e2 : fD l k = false := KW hr (by omega)
    exact ⟨by rw [e2, hip2], a0.gr.below⟩
theorem DR (F : Fz) (w : World) (v u : Value) (l : aO) (k : By) (hs : Sat w F) (hv : Tns F v l) (hu : Bs F u k) (hr : fS l) (hl : l.length ≤ 1000000) :
    Calls Tryz.prog 46 #[v, u] w (cU w (.tuple #[.int .i64 (aU l k : Nat), .bool (fD l k)])) := by
 obtain ⟨a, c, rfl, hc1, hc2⟩ := Sl.shape hv
 obtain ⟨a2, c2, rfl, _⟩ := hu.shape
 have S := St.start hs
 go_enter Tryz.func46, Tryz.ntmps46
 refine sk fun K1 hK1 => ?_
 iterate 2 refine dy ?_
 refine wn hK1 ?_
 refine sk fun K2 hK2 => ?_
 refine aC ?_
 refine aI (v := (.tuple #[(nI (aU l k)), (.bool (fD l k))])) S rfl (fn3 (Id _ _)) (GJ _ _ _ _ l k (S).sat hv hu hr hl) (fun w3 S4 => ?_)
 refine aC ?_
 refine wn hK2 ?_
 refine aP ?_
 try simp only [xt]
 refine bR (cC rfl (gD rfl) (gD rfl)) ?_
 exact ⟨rfl, S4.gr.below⟩
theorem IH {l : aO} (hr : fS l) {k : By} {t : By × List Pr} (h : fD l k = true) (hp : l[aU l k]? = some t) : bG l k = t.2 := by
 obtain ⟨hh, rfl⟩ := List.getElem?_eq_some_iff.1 hp
 obtain ⟨_, h2⟩ := (iN hr).1 h
 have := CF hr (List.getElem_mem hh)
 rw [show l[aU l k].1 = k from h2] at this
 unfold bG
 rw [this]
 rfl
theorem II {l : aO} {k : By} (h : fD l k = false) : bG l k = [] := by
 unfold bG
 rw [UO (by rw [h]; simp)]
 rfl
theorem OG {l : aO} (hr : fS l) {k : By} (h : fD l k = true) : aU l k < l.length := ((iN hr).1 h).1
theorem tT (F : Fz) (w : World) (v u : Value) (l : aO) (k : By) (hs : Sat w F) (hv : Tns F v l) (hu : Bs F u k) (hr : fS l) (hl : l.length ≤ 1000000) :
    Calls Tryz.prog 40 #[v, u] w fun e w' => ∃ x, e = .returned x ∧ Below w.heap.size w w' ∧ Prs F x (bG l k) := by
 obtain ⟨a, c, rfl, hc1, hc2⟩ := Sl.shape hv
 obtain ⟨a2, c2, rfl, _⟩ := hu.shape
 unfold maxLen at hc2
 have S := St.start hs
 go_enter Tryz.func40, Tryz.ntmps40
 refine sk fun K1 hK1 => ?_
 refine dy ?_
 refine wn hK1 ?_
 refine aE fun K2 hK2 => ?_
 refine sk fun K3 hK3 => ?_
 refine aC ?_
 refine aI (v := (.tuple #[(nI (aU l k)), (.bool (fD l k))])) S rfl (fn2 (RK _ _)) (DR _ _ _ _ l k (S).sat hv hu hr hl) (fun w4 S5 => ?_)
 refine aC ?_
 refine wn hK3 ?_
 refine sk fun K6 hK6 => ?_
 refine dx ?_
 simp only [pq]
 refine wn hK6 ?_
 refine wp_cond_split rfl (fun hc7 => ?_) (fun hc7 => ?_)
 refine aE fun K8 hK8 => ?_
 have hpos := OG hr hc7
 obtain ⟨t, hp⟩ : ∃ t, l[aU l k]? = some t := ⟨l[aU l k], List.getElem?_eq_getElem hpos⟩
 obtain ⟨b9, a3, a0, a4, a5, a6, a7, b0, a8, b1, a9⟩ := Tns.get hv hp
 refine aB ?_
 iterate 2 refine dx ?_
 refine dr (pP b9 (a3 + (aU l k) * 2)) (bP (i := (aU l k)) (sz := 2) Tryz.underlying24 (cX _) rfl a0 rfl (hpos) rfl) ?_
 simp only [pq]
 refine df (rY _ _) ?_
 refine dr _ (aD rfl (aW (BC _) (St.fz S5 a8))) ?_
 refine dy ?_
 simp only [pq]
 refine wlK hK8 ?_
 refine aP ?_
 try simp only [xt]
 refine bR (bK rfl (gD rfl)) ?_
 exact ⟨_, rfl, S5.gr.below, by rw [IH hr hc7 hp]; exact a9⟩
 refine aH ?_
 refine hK2 _ _ ?_
 refine sk fun b2 a1 => ?_
 refine dy ?_
 refine wn a1 ?_
 refine aP ?_
 try simp only [xt]
 refine bR (bK rfl (gD rfl)) ?_
 exact ⟨_, rfl, S5.gr.below, by rw [II hc7]; exact Sl.nil _ _ _⟩
theorem jX (F : Fz) (w : World) (v : Value) (l : aO) (hs : Sat w F) (hv : Tns F v l) :
    Calls Tryz.prog 32 #[v] w (cU w (.int .i64 (fM l))) := by
 obtain ⟨a, c, rfl, hc1, hc2⟩ := Sl.shape hv
 unfold maxLen at hc2
 have S := St.start hs
 go_enter Tryz.func32, Tryz.ntmps32
 refine sk fun K1 hK1 => ?_
 refine dy ?_
 refine wn hK1 ?_
 refine aE fun K2 hK2 => ?_
 refine sk fun K3 hK3 => ?_
 refine aC ?_
 by_cases hc9 : 8 < l.length
 refine sX ?_
 refine wn hK3 ?_
 refine aJ ?_
 refine sk fun K4 hK4 => ?_
 refine dy ?_
 refine wn hK4 ?_
 refine aP ?_
 try simp only [xt]
 refine bR (bK rfl (gD rfl)) ?_
 exact ⟨by unfold fM; rw [if_pos (by omega)], S.gr.below⟩
 refine mO ?_
 simp only [pq]
 refine wn hK3 ?_
 refine aF ?_
 refine aH ?_
 refine hK2 _ _ ?_
 refine aE fun K5 hK5 => ?_
 refine sk fun K6 hK6 => ?_
 refine aC ?_
 refine wn hK6 ?_
 refine aM ?_
 refine bA (fun mm aa w8 => ∃ (k : Nat) (u7 : Nat → Value), mm = l.length - k ∧ u7 = dV aa ∧ aa = ⟨([(.slice a l.length c), undef] ++ (usF u7 2 5 ([(.slice a l.length c), (nI l.length), bF, (.slice a l.length c), (nI l.length), (nI k)] ++ (usF u7 13 35 [])))).toArray, []⟩ ∧ St w F w8 F [] [] ∧ (k ≤ l.length) ∧ (jR l l.length 0 = jR l (l.length - k) k)) _ ⟨0, _, rfl, rfl, rfl, S, (by omega), rfl⟩ ?_
 rintro m9 f9 g0 ⟨k, u7, rfl, -, hfr, a9, hk, hT⟩ g1 a1
 simp only [uzF, Nat.reduceAdd] at hfr; subst hfr
 refine sk fun g2 a2 => ?_
 by_cases b2 : k < l.length
 refine eZ ?_
 refine wn a2 ?_
 refine aE fun g3 b3 => ?_
 refine aJ ?_
 refine aH ?_
 refine b3 _ _ ?_
 refine aE fun g4 a3 => ?_
 refine aM ?_
 refine aE fun g5 b4 => ?_
 obtain ⟨t, hp⟩ : ∃ t, l[k]? = some t := ⟨l[k], List.getElem?_eq_getElem b2⟩
 obtain ⟨d6, d7, b5, d8, d9, e0, e1, e2, e3, e4, e5⟩ := Tns.get hv hp
 refine aB ?_
 refine dx ?_
 refine dr (pP d6 (d7 + k * 2)) (bP (i := k) (sz := 2) Tryz.underlying24 (cX _) rfl b5 rfl (by omega) rfl) ?_
 refine dr _ (aD rfl (cN Tryz.underlying66 rfl (jL) (kC (St.fz a9 e2) (St.fz a9 e3)))) ?_
 simp only [pq]
 refine sA a9 (xF _) fun g6 g7 e6 => ?_
 refine dy ?_
 refine sW 0 e6 (jL) fun g8 e7 => ?_
 simp only [pq]
 refine wlK b4 ?_
 refine aE fun g9 b6 => ?_
 refine sk fun h1 b7 => ?_
 refine aC ?_
 refine aI (v := (.int .i64 (iH t.1.length))) e7 rfl (fn1 (KQ _ _)) (eI (hH _ _ _ _)) (fun h2 b0 => ?_)
 refine dy ?_
 simp only [pq]
 refine wn b7 ?_
 refine sk fun h3 a4 => ?_
 refine dx ?_
 simp only [pq]
 by_cases b9 : (iH t.1.length) = (0 : Int)
 refine nB ?_
 refine wn a4 ?_
 refine aF ?_
 refine aH ?_
 refine b6 _ _ ?_
 refine aE fun h4 c0 => ?_
 refine sk fun h5 a5 => ?_
 refine aC ?_
 by_cases e8 : t.2.length = 0
 refine iQ ?_
 refine wn a5 ?_
 refine aJ ?_
 refine sk fun h6 c1 => ?_
 refine dy ?_
 refine wn c1 ?_
 refine aP ?_
 try simp only [xt]
 refine bR (bK rfl (gD rfl)) ?_
 exact ⟨by unfold fM; rw [if_neg (by omega), hT, kV hp, if_neg (by omega), if_pos (by omega)], b0.gr.below⟩
 refine gB ?_
 simp only [pq]
 refine wn a5 ?_
 refine aF ?_
 refine aH ?_
 refine c0 _ _ ?_
 refine aE fun h7 c2 => ?_
 refine sk fun h8 c3 => ?_
 refine aC ?_
 refine aI (v := (.int .i64 (jG t.2))) b0 rfl (fn1 (vW _ _)) (iS _ _ _ t.2 (b0).sat e5) (fun h9 a6 => ?_)
 refine dy ?_
 simp only [pq]
 refine wn c3 ?_
 refine sk fun i0 a7 => ?_
 refine dx ?_
 simp only [pq]
 by_cases c4 : (jG t.2) = (0 : Int)
 refine nB ?_
 refine wn a7 ?_
 refine aF ?_
 refine aH ?_
 refine c2 _ _ ?_
 refine aE fun i1 a0 => ?_
 by_cases h0 : 0 < k
 obtain ⟨q, hq⟩ : ∃ q, l[k - 1]? = some q := ⟨l[k - 1], List.getElem?_eq_getElem (by omega)⟩
 have hqd : l.getD (k - 1) ([], []) = q := by rw [List.getD_eq_getElem?_getD, hq]; rfl
 obtain ⟨e9, f0, c5, f1, f2, f3, f4, f5, i2, f6, i3⟩ := Tns.get hv hq
 refine aT F 11 [] (by kernel_rfl) (by kernel_rfl) ?_
 simp only [dD]
 refine gm ?_
 refine gv bT (fun _ _ => tK (m := ((k : Nat) : Int)) (n := (0 : Int)) (b := true) rfl rfl (decide_eq_true (by omega))) ?_
 simp only [pq]
 iterate 3 refine gm ?_
 simp only [pq]
 refine gv (nI (k - 1)) (fun _ _ => tL (m := ((k : Nat) : Int)) (n := (1 : Int)) (r := (((k - 1) : Nat) : Int)) rfl rfl (by omega) (by omega) (by omega)) ?_
 refine gv (pP e9 (f0 + (k - 1) * 2)) (fun _ _ => bP (i := (k - 1)) (sz := 2) Tryz.underlying24 (cX _) rfl c5 rfl (by omega) rfl) ?_
 refine gf (JX _ _) ?_
 simp only [pq]
 refine gv _ (fun _ f7 => aD rfl (aW (bI _) (St.fz (St.tells a6 f7) f5))) ?_
 refine gf (JX _ _) ?_
 refine gl bI a6 0 ?_
 simp only [pq]
 refine bY ?_
 intro i4 c6 c7
 clear c7
 have d5 := St.tells a6 c6
 simp only [dE]
 refine aI (v := (.int .i64 (eY q.1 t.1))) d5 rfl (fn2 (vX _ _)) (fA _ _ _ _ q.1 t.1 (d5).sat f6 e4) (fun i5 b1 => ?_)
 simp only [pq]
 by_cases a8 : (0 : Int) ≤ (eY q.1 t.1)
 refine ZA ?_
 refine dp ?_
 refine wlK a0 ?_
 refine aJ ?_
 refine sk fun i6 c8 => ?_
 refine dy ?_
 simp only [pq]
 refine wn c8 ?_
 refine aP ?_
 try simp only [xt]
 refine bR (bK rfl (gD rfl)) ?_
 exact ⟨by unfold fM; rw [if_neg (by omega), hT, kV hp, if_neg (by omega), if_neg (by omega), if_neg (by omega), if_pos ⟨h0, by rw [hqd]; exact a8⟩], b1.gr.below⟩
 refine ZB ?_
 refine dp ?_
 refine wlK a0 ?_
 refine aF ?_
 refine aH ?_
 refine a3 _ _ ?_
 refine aB ?_
 refine cO (k + 1) ?_
 refine dx ?_
 simp only [pq]
 refine aG ?_
 have b1 := St.drop b1 (.cons _ (List.Sublist.refl _))
 exact a1 _ _ _ (by omega) ⟨(k + 1), _, rfl, rfl, rfl, b1, (by omega), (by rw [hT, kV hp, if_neg (by omega), if_neg (by omega), if_neg (by omega), if_neg (fun h => a8 (by have := h.2; rw [hqd] at this; exact this))])⟩
 refine aT F 11 [] (by kernel_rfl) (by kernel_rfl) ?_
 simp only [dD]
 refine gm ?_
 refine gv bF (fun _ _ => tK (m := ((k : Nat) : Int)) (n := (0 : Int)) (b := false) rfl rfl (decide_eq_false (by omega))) ?_
 refine gm ?_
 simp only [pq]
 refine dY (cE rfl rfl rfl (c := false) rfl (by decide)) ?_
 simp only [pq]
 refine dY (cE rfl rfl rfl (c := false) rfl (by decide)) ?_
 simp only [pq]
 refine dY (cE rfl rfl rfl (c := false) rfl (by decide)) ?_
 simp only [pq]
 refine dY (cE rfl rfl rfl (c := false) rfl (by decide)) ?_
 simp only [pq]
 refine dY (cE rfl rfl rfl (c := false) rfl (by decide)) ?_
 simp only [pq]
 refine dY (cE rfl rfl rfl (c := false) rfl (by decide)) ?_
 simp only [pq]
 refine dY (cE rfl rfl rfl (c := false) rfl (by decide)) ?_
 simp only [pq]
 refine dY (cE rfl rfl rfl (c := false) rfl (by decide)) ?_
 refine bY ?_
 intro i7 c9 d0
 clear d0
 have d1 := St.tells a6 c9
 simp only [dE]
 refine aC ?_
 refine wlK a0 ?_
 refine aF ?_
 refine aH ?_
 refine a3 _ _ ?_
 refine aB ?_
 refine cO (k + 1) ?_
 refine dx ?_
 simp only [pq]
 refine aG ?_
 have d1 := St.drop d1 (.cons _ (List.Sublist.refl _))
 exact a1 _ _ _ (by omega) ⟨(k + 1), _, rfl, rfl, rfl, d1, (by omega), (by rw [hT, kV hp, if_neg (by omega), if_neg (by omega), if_neg (by omega), if_neg (fun h => h0 h.1)])⟩
 refine qS ?_
 refine wn a7 ?_
 refine aJ ?_
 refine sk fun i8 d2 => ?_
 refine aC ?_
 refine wn d2 ?_
 refine aP ?_
 try simp only [xt]
 refine bR (bK rfl (gD rfl)) ?_
 exact ⟨by unfold fM; rw [if_neg (by omega), hT, kV hp, if_neg (by omega), if_neg (by omega), if_pos c4], a6.gr.below⟩
 refine qS ?_
 refine wn a4 ?_
 refine aJ ?_
 refine sk fun i9 d3 => ?_
 refine aC ?_
 refine wn d3 ?_
 refine aP ?_
 try simp only [xt]
 refine bR (bK rfl (gD rfl)) ?_
 exact ⟨by unfold fM; rw [if_neg (by omega), hT, kV hp, if_pos b9], b0.gr.below⟩
 refine eT ?_
 refine wn a2 ?_
 refine aE fun j0 f8 => ?_
 refine aF ?_
 refine cV ?_
 refine hK5 _ _ ?_
 refine sk fun j1 d4 => ?_
 refine dy ?_
 refine wn d4 ?_
 refine aP ?_
 try simp only [xt]
 refine bR (bK rfl (gD rfl)) ?_
 exact ⟨by unfold fM; rw [if_neg (by omega), hT, KZ (by omega)], a9.gr.below⟩
theorem GK (F : Fz) (w : World) (v u : Value) (l : aO) (k : By) (hs : Sat w F) (hv : Tns F v l) (hu : Bs F u k) (ok1 : ForestOk 60 l) :
    Calls Tryz.prog 38 #[v, u] w (cU w (.int .i64 (iH k.length))) := by
 have ok := oQ.2 ok1
 obtain ⟨a, c, rfl, hc1, hc2⟩ := Sl.shape hv
 obtain ⟨a2, c2, rfl, _⟩ := hu.shape
 have S := St.start hs
 go_enter Tryz.func38, Tryz.ntmps38
 refine sk fun K1 hK1 => ?_
 refine dy ?_
 refine wn hK1 ?_
 refine aE fun K2 hK2 => ?_
 refine sk fun K3 hK3 => ?_
 refine dx ?_
 refine aI (v := (.int .i64 (fM l))) S rfl (fn1 (KO _ _)) (jX _ _ _ l (S).sat hv) (fun w4 S5 => ?_)
 refine dy ?_
 simp only [pq]
 refine wn hK3 ?_
 refine sk fun K6 hK6 => ?_
 refine dx ?_
 refine dr bF (cG (m := (fM l)) (n := (0 : Int)) (b := false) rfl rfl (bne_eq_false_iff_eq.2 (ok))) ?_
 refine wn hK6 ?_
 refine aF ?_
 refine aH ?_
 refine hK2 _ _ ?_
 refine sk fun K7 hK7 => ?_
 refine dx ?_
 simp only [pq]
 refine aI (v := (.int .i64 (iH k.length))) S5 rfl (fn1 (KQ _ _)) (eI (hH _ _ _ _)) (fun w8 S9 => ?_)
 refine dy ?_
 refine wn hK7 ?_
 refine aP ?_
 try simp only [xt]
 refine bR (bK rfl (gD rfl)) ?_
 exact ⟨rfl, S9.gr.below⟩
theorem TnC.one (F : Fz) (cs : List Value) (p : By × List Pr) (h : TnC F cs p) : ∀ u ∈ cs, u.oneCell' = true := h.oneCell
theorem ForestOk.small {f : aO} (h : ForestOk 60 f) {t : By × List Pr} (ht : t ∈ f) : t.1.length ≤ 100000 ∧ t.2.length ≤ 60 ∧ ∀ p ∈ t.2, p.1.length ≤ 100000 ∧ p.2.length ≤ 100000 := by
 have h1 := h.name t ht
 have h2 := h.tree t ht
 exact ⟨by have := h1.2; omega, h2.len, fun p hp => h2.small hp⟩
theorem WH (F : Fz) (w : World) (v : Value) (l : aO) (hs : Sat w F) (hv : Tns F v l) (hl : l.length ≤ 100000) (hL : ∀ t ∈ l, t.1.length ≤ 100000 ∧ t.2.length ≤ 60 ∧ ∀ p ∈ t.2, p.1.length ≤ 100000 ∧ p.2.length ≤ 100000) :
    Calls Tryz.prog 33 #[v] w (rV w F 2 TnC 66 l) := by
 obtain ⟨a, c, rfl, hc1, hc2⟩ := Sl.shape hv
 unfold maxLen at hc2
 obtain ⟨j6, e1, e2, e3, e4⟩ := info_parts nQ
 obtain ⟨j7, e5, e6, e7, e8⟩ := info_parts uT
 have S := St.start hs
 go_enter Tryz.func33, Tryz.ntmps33
 refine sk fun K1 hK1 => ?_
 refine dy ?_
 refine wn hK1 ?_
 refine sk fun K2 hK2 => ?_
 refine dy ?_
 refine wn hK2 ?_
 refine aE fun K3 hK3 => ?_
 refine sk fun K4 hK4 => ?_
 refine aC ?_
 refine wn hK4 ?_
 refine aM ?_
 have S5 := St.addNil S 2 TnC TnC.mono 66 w.heap.size
 refine bA (fun mm aa w8 => ∃ (k : Nat) (v : Value) (F6 : Fz) (u7 : Nat → Value), mm = l.length - k ∧ u7 = dV aa ∧ aa = ⟨([(.slice a l.length c), undef, Zn, v, undef, (u7 5), (u7 6), undef, (u7 8), (.slice a l.length c), (nI l.length), (nI k)] ++ (usF u7 12 32 [undef])).toArray, []⟩ ∧ St w F w8 F6 [] [bZ 2 TnC TnC.mono 66 w.heap.size v (l.take k)] ∧ Le F F6 ∧ (k ≤ l.length)) _ ⟨0, Zn, F, _, rfl, rfl, rfl, S5, Le.refl _, (by omega)⟩ ?_
 rintro m9 n6 n7 ⟨k, v, F6, u7, rfl, -, hfr, c2, c3, hk⟩ n8 e9
 simp only [uzF, Nat.reduceAdd] at hfr; subst hfr
 refine sk fun n9 c4 => ?_
 by_cases f0 : k < l.length
 refine eZ ?_
 refine wn c4 ?_
 refine aE fun o0 f1 => ?_
 refine aJ ?_
 refine aH ?_
 refine f1 _ _ ?_
 refine aE fun o1 f2 => ?_
 refine aM ?_
 refine aE fun o2 f3 => ?_
 obtain ⟨t, ht⟩ : ∃ t, l[k]? = some t := ⟨l[k], List.getElem?_eq_getElem f0⟩
 obtain ⟨hs1, hs2, hs3⟩ := hL t (List.mem_of_getElem? ht)
 have htk : (l.take k).length = k := by rw [List.length_take]; omega
 obtain ⟨i2, i3, f4, b2, b3, b4, b5, j8, j9, k0, k1⟩ := Tns.get (hv.mono c3) ht
 refine aB ?_
 refine dr (pP i2 (i3 + k * 2)) (bP (i := k) (sz := 2) Tryz.underlying24 (cX _) rfl f4 rfl (by omega) rfl) ?_
 refine dr _ (aD rfl (cN Tryz.underlying66 rfl (jL) (kC (St.fz c2 j8) (St.fz c2 j9)))) ?_
 simp only [pq]
 refine sA c2 (xF _) fun d8 o3 k2 => ?_
 refine sW 0 k2 (jL) fun o4 i4 => ?_
 refine wlK f3 ?_
 refine sk fun o5 f5 => ?_
 refine aC ?_
 refine aR i4 rfl (fn1 (gN _ _)) (cZ _ _ _ t.1 (i4).sat k0 (by omega)) ?_
 intro o6 o7 i5 k3 c5 f6
 obtain ⟨a1, a2, rfl, _⟩ := f6.shape
 refine dr (.agg #[(.slice a1 t.1.length a2), Zn]) (aL (cH rfl) (by kernel_rfl)) ?_
 refine sA k3 (xF _) fun i6 o8 k4 => ?_
 refine sW 0 k4 (jL) fun o9 k5 => ?_
 simp only [pq]
 refine wn f5 ?_
 refine aE fun p0 f7 => ?_
 refine sk fun p1 f8 => ?_
 refine aC ?_
 refine wn f8 ?_
 refine aM ?_
 have k6 := St.addNil k5 2 PrC PrC.mono 50 w.heap.size
 refine bA (fun mm aa k7 => ∃ (j : Nat) (v2 : Value) (d9 : Fz) (e0 : Nat → Value), mm = t.2.length - j ∧ e0 = dV aa ∧ aa = ⟨([(.slice a l.length c), undef, Zn, v, undef, (pP d8 0), (pP i6 0), undef, (e0 8), (.slice a l.length c), (nI l.length), (nI k), bT, (pP i2 (i3 + k * 2)), (.agg #[(.slice b2 t.1.length b3), (.slice b4 t.2.length b5)]), (pP d8 0), (.slice b2 t.1.length b3), (.slice a1 t.1.length a2), (.agg #[(.slice a1 t.1.length a2), Zn]), (pP d8 1), (.slice b4 t.2.length b5), (nI t.2.length), (nI j)] ++ (usF e0 23 16 (usF u7 39 5 [undef]))).toArray, []⟩ ∧ St w F k7 d9 [⟨i6, [(.slice a1 t.1.length a2), v2], 66⟩, ⟨d8, [(.slice b2 t.1.length b3), (.slice b4 t.2.length b5)], 66⟩] [bZ 2 PrC PrC.mono 50 w.heap.size v2 (t.2.take j), bZ 2 TnC TnC.mono 66 w.heap.size v (l.take k)] ∧ Le i5 d9 ∧ (j ≤ t.2.length)) _ ⟨0, Zn, i5, _, rfl, rfl, rfl, k6, Le.refl _, (by omega)⟩ ?_
 rintro p2 p3 p4 ⟨j, v2, d9, e0, rfl, -, hfr, c6, a4, hj⟩ p5 f9
 simp only [uzF, Nat.reduceAdd] at hfr; subst hfr
 refine sk fun p6 c7 => ?_
 by_cases g0 : j < t.2.length
 refine eZ ?_
 refine wn c7 ?_
 refine aE fun p7 g1 => ?_
 refine aJ ?_
 refine aH ?_
 refine g1 _ _ ?_
 refine aE fun p8 g2 => ?_
 refine aM ?_
 refine aE fun p9 g3 => ?_
 obtain ⟨p, hp⟩ : ∃ p, t.2[j]? = some p := ⟨t.2[j], List.getElem?_eq_getElem g0⟩
 obtain ⟨hp1, hp2⟩ := hs3 p (List.mem_of_getElem? hp)
 have hpk : (t.2.take j).length = j := by rw [List.length_take]; omega
 obtain ⟨k8, k9, g4, g5, g6, g7, g8, l0, l1, l2, l3⟩ := Prs.get (k1.mono (c5.trans a4)) hp
 refine aB ?_
 refine dr (pP k8 (k9 + j * 2)) (bP (i := j) (sz := 2) Tryz.underlying47 (bL _) rfl g4 rfl (by omega) rfl) ?_
 refine dr _ (aD rfl (cN Tryz.underlying50 rfl (dL) (kC (St.fz c6 l0) (St.fz c6 l1)))) ?_
 simp only [pq]
 refine sA c6 (uS _) fun q0 q1 l4 => ?_
 refine sW 0 l4 (dL) fun q2 a6 => ?_
 refine wlK g3 ?_
 refine aT d9 10 [(4, .made (fun F' u => Bs F' u p.1)), (7, .made (fun F' u => Bs F' u p.2)), (8, .made (fun F' u => Pr2V F' u (p.1, p.2))), (9, .made (fun F' u => Prs F' u [(p.1, p.2)]))] (by kernel_rfl) (by kernel_rfl) ?_
 simp only [dD]
 refine gf (rY _ _) ?_
 simp only [pq]
 refine gl BC a6 1 ?_
 refine gf (nR _ _) ?_
 refine gl bI a6 0 ?_
 simp only [pq]
 refine dF rfl rfl (fun g9 b6 hF => bO (cK (vs := #[(.slice g5 p.1.length g6)]) (lG rfl) rfl (gN _ _)) (cS a6.sat b6 (cZ _ _ _ p.1 ((St.tells a6 b6)).sat l2 (by omega)))) (fun q3 => ?_)
 refine gf (xE _ _) ?_
 refine gl bI a6 0 ?_
 simp only [pq]
 refine dF rfl rfl (fun g9 b6 hF => bO (cK (vs := #[(.slice g7 p.2.length g8)]) (lG rfl) rfl (gN _ _)) (cS a6.sat b6 (cZ _ _ _ p.2 ((St.tells a6 b6)).sat l3 (by omega)))) (fun q4 => ?_)
 simp only [pq]
 refine dF rfl rfl (fun g9 b6 hF_ => ?_) (fun q5 => ?_)
 obtain ⟨i7, i8, l5⟩ := hF_.get 4 (by kernel_rfl) rfl rfl
 obtain ⟨i9, j0, l6⟩ := hF_.get 7 (by kernel_rfl) rfl rfl
 have hR0 := (l5.mono (iM i7 i9))
 obtain ⟨l7, l8, rfl, _⟩ := hR0.shape
 have hR1 := (l6.mono (jN i8.sat j0.sat))
 obtain ⟨l9, m0, rfl, _⟩ := hR1.shape
 exact hJ (aL (fY rfl rfl) (by kernel_rfl)) ⟨(both i7 i9), (i8.both j0), ⟨_, _, _, _, rfl, hR0, hR1⟩⟩ (Below.refl _ _)
 simp only [pq]
 refine dF rfl rfl (fun g9 b6 hF_ => ?_) (fun m1 => ?_)
 obtain ⟨m2, h0, h1⟩ := hF_.get 8 (by kernel_rfl) rfl rfl
 obtain ⟨c8, a8, a9, b0, rfl, h2, h3⟩ := h1
 exact tS (k := 2) (R := PrC) (hR := PrC.mono) (p := (p.1, p.2)) (cs := [.slice c8 _ a8, .slice a9 _ b0]) (E := 50) h0 ⟨_, _, rfl, h2, h3⟩ rfl (bS (E := 50) (cells := #[.slice c8 _ a8, .slice a9 _ b0]) (cH rfl) (fun w => by kernel_rfl))
 refine bY ?_
 intro m3 j1 b1
 obtain ⟨h4, c9, h5⟩ := b1.get 9 rfl rfl
 have b7 := St.gives a6 c9
 have d0 : Le _ _ := c9.le a6.sat
 have d1 := h5
 generalize h4 = h6 at *
 obtain ⟨d2, d3, rfl, _⟩ := Sl.shape d1
 clear b1
 simp only [dE]
 refine eE (r := 0) (u := (.slice d2 [(p.1, p.2)].length d3)) b7 rfl j6 (.agg #[Zn, Zn]) 48 Tryz.underlying47 e1 e2 e3 e4 rfl (by decide) rfl rfl rfl (Sl.toW d1 (b7).sat) (fun F cs p h => PrC.one F cs p h) (Nat.le_refl _) b7.gr.below.size (by unfold maxLen; simp only [List.length_take, List.length_cons, List.length_nil]; omega) (by simp only [List.length_take, List.length_cons, List.length_nil]; omega) ?_
 intro m4 m5 d4 j2
 simp only [pq]
 obtain ⟨h7, b9, rfl, m6, h8⟩ := (d4.own (i := 0) rfl).shape
 unfold maxLen at h8
 refine df (rY _ _) ?_
 refine sW 1 d4 (JU) fun m7 a7 => ?_
 refine wlK g2 ?_
 refine aB ?_
 refine cO (j + 1) ?_
 refine dx ?_
 simp only [pq]
 refine aG ?_
 have a7 := St.drop a7 (.cons _ (List.Sublist.refl _))
 rw [← fK hp] at a7
 exact f9 _ _ _ (by omega) ⟨(j + 1), (.slice h7 (t.2.take (j + 1)).length b9), h6, _, rfl, rfl, rfl, a7, (a4.trans d0), (by omega)⟩
 refine eT ?_
 refine wn c7 ?_
 refine aE fun m8 j3 => ?_
 refine aF ?_
 refine cV ?_
 refine f7 _ _ ?_
 have hj2 : t.2.take j = t.2 := List.take_of_length_le (by omega)
 rw [hj2] at c6
 obtain ⟨h9, d5, a5, a0⟩ := St.freeze c6 (i := 0) rfl (Nat.le_refl _)
 have a0 : Prs _ v2 t.2 := a0
 obtain ⟨c0, c1, rfl, n0, i0⟩ := Sl.shape a0
 unfold maxLen at i0
 refine aB ?_
 refine dx ?_
 refine dR d5 0 Tryz.underlying66 (jL) ?_
 simp only [pq]
 refine bD d5 (v := fun n => .slice (aA n 0) 1 1) rfl (bS (ps := #[(0, (.agg #[(.slice a1 t.1.length a2), (.slice c0 t.2.length c1)]))]) (cells := #[(.slice a1 t.1.length a2), (.slice c0 t.2.length c1)]) (E := 66) (cH rfl) (fun w => by kernel_rfl)) (fun n1 n2 d6 => ?_)
 refine eN (i := 0) (r := 0) (p := t) (cs := [(.slice a1 t.1.length a2), (.slice c0 t.2.length c1)]) d6 rfl j7 (.agg #[Zn, Zn]) 48 Tryz.underlying24 e5 e6 e7 e8 rfl (by decide) rfl rfl rfl rfl rfl (TnC.oneCell (p := t) ⟨_, _, rfl, (f6.mono (a4.trans a5)), a0⟩) (⟨_, _, rfl, (f6.mono (a4.trans a5)), a0⟩) (Nat.le_refl _) d6.gr.below.size (by unfold maxLen; omega) (by omega) ?_
 intro i1 n3 a3 j4
 simp only [pq]
 have a3 := St.drop a3 (.cons _ (List.Sublist.refl _))
 refine dy ?_
 refine wlK f2 ?_
 refine aB ?_
 refine cO (k + 1) ?_
 refine dx ?_
 simp only [pq]
 refine aG ?_
 have a3 := St.drop a3 (.cons _ (.cons _ (List.Sublist.refl _)))
 rw [← fK ht] at a3
 exact e9 _ _ _ (by omega) ⟨(k + 1), i1, h9, _, rfl, rfl, rfl, a3, (((c3.trans c5).trans a4).trans a5), (by omega)⟩
 refine eT ?_
 refine wn c4 ?_
 refine aE fun n4 j5 => ?_
 refine aF ?_
 refine cV ?_
 refine hK3 _ _ ?_
 refine sk fun n5 d7 => ?_
 refine aC ?_
 refine wn d7 ?_
 refine aP ?_
 try simp only [xt]
 refine bR (bK rfl (gD rfl)) ?_
 obtain rfl : k = l.length := by omega
 exact ⟨_, _, rfl, c2.gr, by have h := St.own (i := 0) c2 rfl; rwa [List.take_length] at h⟩
theorem tU {l : aO} {r : Wr} (h : wrE r ≠ 0) : dP l [r] = (wrE r, []) := by unfold dP; rw [if_pos h]
theorem BJ {l : aO} {r : Wr} (h : wrE r = 0) (hw : eR l r = none) : dP l [r] = (11, []) := by unfold dP; rw [if_neg (by simp [h]), hw]
theorem pM {l g : aO} {r : Wr} (h : wrE r = 0) (hw : eR l r = some g) : dP l [r] = (0, g) := by unfold dP; rw [if_neg (by simp [h]), hw]; rfl
theorem AA (F : Fz) (w : World) (v u : Value) (l : List Pr) (k : By) (hs : Sat w F) (hv : Prs F v l) (hu : Bs F u k) (ok : TreeOk 60 l) (hk : cJ k.length ≠ 0) :
    Calls Tryz.prog 47 #[v, u] w (dB w F (PrsE [] (cJ k.length))) := by
 have := zZ F w v u l k hs hv hu ok
 unfold WG WF at this
 rwa [if_neg hk] at this
theorem AB (F : Fz) (w : World) (v u : Value) (l : List Pr) (p : Pr) (hs : Sat w F) (hv : Prs F v l) (hu : Pr2V F u p) (ok : TreeOk 60 l) (hk : p.1.length ≤ 100000) (hx : p.2.length ≤ 100000) (h : fU p ≠ 0) :
    Calls Tryz.prog 48 #[v, u] w (dB w F (PrsE [] (fU p))) := by
 have := DP F w v u l p hs hv hu ok hk hx
 have he : vJ l p = fU p := by unfold vJ; rw [if_pos h]
 unfold OE at this
 rwa [he, if_neg h] at this
theorem sE (F : Fz) (w : World) (v u : Value) (l : List Pr) (p : Pr) (hs : Sat w F) (hv : Prs F v l) (hu : Pr2V F u p) (ok : TreeOk 60 l) (hk : p.1.length ≤ 100000) (hx : p.2.length ≤ 100000) (h : fU p = 0) (h2 : 60 < (eV l p.1 p.2).length) :
    Calls Tryz.prog 48 #[v, u] w (dB w F (PrsE [] 11)) := by
 have := DP F w v u l p hs hv hu ok hk hx
 have he : vJ l p = 11 := by unfold vJ; rw [if_neg (by simp [h]), if_pos h2]
 unfold OE at this
 rwa [he, if_neg (by decide)] at this
theorem tV (F : Fz) (w : World) (v u : Value) (l : List Pr) (p : Pr) (hs : Sat w F) (hv : Prs F v l) (hu : Pr2V F u p) (ok : TreeOk 60 l) (hk : p.1.length ≤ 100000) (hx : p.2.length ≤ 100000) (h : fU p = 0) (h2 : ¬ 60 < (eV l p.1 p.2).length) :
    Calls Tryz.prog 48 #[v, u] w (dB w F (PrsE (eV l p.1 p.2) 0)) := by
 have := DP F w v u l p hs hv hu ok hk hx
 have he : vJ l p = 0 := by unfold vJ; rw [if_neg (by simp [h]), if_neg h2]
 unfold OE at this
 rwa [he, if_pos rfl] at this
theorem UP {F : Fz} {w : World} {v u : Value} {l : aO} {k : By} {b : Bool} (hs : Sat w F) (hv : Tns F v l) (hu : Bs F u k) (hr : fS l) (hl : l.length ≤ 1000000) (h : fD l k = b) :
    Calls Tryz.prog 46 #[v, u] w (cU w (.tuple #[.int .i64 (aU l k : Nat), .bool b])) := by
 subst h; exact DR F w v u l k hs hv hu hr hl
theorem gV {l : aO} {r : Wr} {O N : List Pr} (hO : bG l r.name = O) (hN : iO r O = N) : eR l r = if r.gone = false ∧ 60 < N.length then none else if N = [] then some (gP l r.name) else if 8 < (eV l r.name N).length then none else some (eV l r.name N) := by
 subst hO; subst hN; rfl
theorem oA {r : Wr} {O : List Pr} (h : r.gone = true) : iO r O = gP O r.key := by unfold iO; rw [if_pos h]
theorem lL {r : Wr} {O : List Pr} (h : r.gone = false) : iO r O = eV O r.key r.value := by unfold iO; rw [if_neg (by rw [h]; simp)]
theorem BK {N : List Pr} (h : N.length = 0) : N = [] := List.eq_nil_of_length_eq_zero h
theorem uX {N : List Pr} (h : ¬ N.length = 0) : N ≠ [] := fun e => h (by rw [e]; rfl)
theorem OH {l : aO} (hr : fS l) {k : By} (h : fD l k = true) (N : List Pr) : eV l k N = l.set (aU l k) (k, N) := by unfold eV; rw [if_pos h]
theorem OI {l : aO} {k : By} (h : fD l k = false) (N : List Pr) : eV l k N = l.take (aU l k) ++ (k, N) :: l.drop (aU l k) := by unfold eV; rw [if_neg (by rw [h]; simp)]
theorem OJ {l : aO} {k : By} (h : fD l k = true) : gP l k = l.take (aU l k) ++ l.drop (aU l k + 1) := by unfold gP; rw [if_pos h]
theorem OK {l : aO} {k : By} (h : fD l k = false) : gP l k = l := by unfold gP; rw [if_neg (by rw [h]; simp)]
theorem RT {w0 w : World} {F0 F : Fz} {L0 : List Blk} {M0 : List RowP} {v u : Value} {l : aO} {r : Wr}
    (S : St w0 F0 w F L0 (bZ 2 TnC TnC.mono 66 w0.heap.size v l :: M0)) (hu : WrV F u r) (ok : ForestOk 60 l) (hb0 : r.name.length ≤ 100000) (hb1 : r.key.length ≤ 100000) (hb2 : r.value.length ≤ 100000) :
    Calls Tryz.prog 34 #[v, u] w fun e w' => ∃ v', e = .returned (.tuple #[v', .int .i64 (dP l [r]).1]) ∧ ∃ F', Le F F' ∧
      (((dP l [r]).1 = 0 ∧ St w0 F0 w' F' L0 (bZ 2 TnC TnC.mono 66 w0.heap.size v' (dP l [r]).2 :: M0)) ∨ ((dP l [r]).1 ≠ 0 ∧ v' = .slice none 0 0 ∧ St w0 F0 w' F' L0 M0)) := by
 obtain ⟨a, c, rfl, hc1, hc2⟩ := (S.own (i := 0) rfl).shape
 obtain ⟨x0, y0, x1, y1, x3, y3, rfl, h0, h1, h3⟩ := hu
 unfold maxLen at hc2
 obtain ⟨cb, r9, s0, s1, s2⟩ := info_parts uT
 go_enter Tryz.func34, Tryz.ntmps34
 refine sk fun K1 hK1 => ?_
 refine bD S (v := fun n => .pointer (aA n 0)) rfl (cB (v := (.agg #[(.slice x0 r.name.length y0), (.slice x1 r.key.length y1), (.bool r.gone), (.slice x3 r.value.length y3)])) rfl) (fun n2 w3 S4 => ?_)
 iterate 2 refine dy ?_
 refine wn hK1 ?_
 refine aE fun K5 hK5 => ?_
 refine sk fun K6 hK6 => ?_
 refine aC ?_
 refine aI (v := (.int .i64 (iH r.name.length))) S4 rfl (fn1 (KQ _ _)) (eI (hH _ _ _ _)) (fun w7 S8 => ?_)
 refine dy ?_
 refine wn hK6 ?_
 refine sk fun K9 hK9 => ?_
 refine dx ?_
 simp only [pq]
 by_cases d6 : (iH r.name.length) = (0 : Int)
 refine nB ?_
 refine wn hK9 ?_
 refine aF ?_
 refine aH ?_
 refine hK5 _ _ ?_
 refine aE fun cc d7 => ?_
 have hl8 := ok.len
 have hpl : aU l r.name ≤ l.length := kE _ _ _
 cases hh : fD l r.name with
 | false =>
  have hO := II hh
  refine aB ?_
  refine aC ?_
  obtain ⟨cd, j9, k0, d8⟩ := oK S8 (i := 0) rfl
  refine aI (v := (.tuple #[(nI (aU l r.name)), bF])) S8 rfl (fn2 (RK _ _)) (UP j9 d8 (h0.mono k0) ok.rise (by omega) hh) (fun ce b5 => ?_)
  refine aC ?_
  refine wlK d7 ?_
  refine sk fun cf k1 => ?_
  refine aC ?_
  refine wn k1 ?_
  refine aE fun cg k2 => ?_
  refine sk fun ch k3 => ?_
  refine dx ?_
  refine wn k3 ?_
  refine aF ?_
  refine aH ?_
  refine k2 _ _ ?_
  refine sk fun ci k4 => ?_
  refine dy ?_
  refine wn k4 ?_
  refine aE fun cj a5 => ?_
  refine sk fun ck k5 => ?_
  refine aC ?_
  refine wn k5 ?_
  refine wp_cond_split rfl (fun hgone => ?_) (fun hgone => ?_)
  refine aE fun cl d9 => ?_
  by_cases hk : cJ r.key.length = 0
  refine aB ?_
  refine aC ?_
  refine aR b5 rfl (fn2 (DJ _ _)) (wA _ _ _ _ ([] : List Pr) r.key (b5).sat (Sl.nil _ _ _) h1 (TreeOk.nil 60) (iV.1 hk)) ?_
  intro cm cn co e0 a7 s3
  obtain ⟨_, rfl, j7⟩ := s3
  obtain ⟨j8, e1, rfl, q6, s4⟩ := Sl.shape j7
  unfold maxLen at s4
  have q6 : (gP ([] : List Pr) r.key).length ≤ e1 := q6
  have j7 : Prs _ (.slice j8 (gP ([] : List Pr) r.key).length e1) (gP ([] : List Pr) r.key) := j7
  refine aC ?_
  refine wlK d9 ?_
  refine sk fun cp e2 => ?_
  refine dx ?_
  refine dr bT (cF (b := true) rfl rfl (by decide)) ?_
  refine aC ?_
  by_cases k6 : 0 < r.value.length
  refine sX ?_
  refine dp ?_
  refine wn e2 ?_
  refine aJ ?_
  refine aB ?_
  refine dy ?_
  simp only [pq]
  refine wlK a5 ?_
  refine aE fun cq s5 => ?_
  refine aM ?_
  refine sk fun cr k7 => ?_
  refine dx ?_
  refine dr bT (cG (b := true) rfl rfl (by decide)) ?_
  refine dy ?_
  simp only [pq]
  refine wn k7 ?_
  refine aJ ?_
  refine sk fun ct k8 => ?_
  refine aC ?_
  refine wn k8 ?_
  refine aP ?_
  try simp only [xt]
  refine bR (cC rfl (gD rfl) (gD rfl)) ?_
  skip
  have hwe : wrE r = 4 := by unfold wrE; rw [if_neg (by omega), if_pos hgone, if_neg (by omega), if_pos (by omega)]
  have hne : wrE r ≠ 0 := by rw [hwe]; decide
  have s6 := St.drop e0 (.cons _ (List.Sublist.refl _))
  rw [tU hne]
  refine ⟨_, by rw [hwe], _, a7, .inr ⟨hne, rfl, St.dropRow s6 (.cons _ (.refl _))⟩⟩
  refine mO ?_
  refine dp ?_
  refine wn e2 ?_
  refine aF ?_
  refine aH ?_
  refine a5 _ _ ?_
  refine aE fun cu k9 => ?_
  refine aM ?_
  refine sk fun cv l0 => ?_
  refine dx ?_
  refine dr bF (cG (b := false) rfl rfl (by decide)) ?_
  refine dy ?_
  simp only [pq]
  refine wn l0 ?_
  refine aF ?_
  refine sk fun cw l1 => ?_
  refine aC ?_
  refine wn l1 ?_
  refine aF ?_
  refine sk fun cx l2 => ?_
  refine aC ?_
  refine wn l2 ?_
  refine aF ?_
  refine sk fun cy e3 => ?_
  refine aC ?_
  by_cases a3 : (gP ([] : List Pr) r.key).length = 0
  refine iQ ?_
  refine dy ?_
  refine wn e3 ?_
  refine aJ ?_
  refine sk fun cz l3 => ?_
  refine aC ?_
  refine wn l3 ?_
  refine aP ?_
  try simp only [xt]
  refine bR (cC rfl (gD rfl) (gD rfl)) ?_
  skip
  have hw0 : wrE r = 0 := by unfold wrE; rw [if_neg (by omega), if_pos hgone, if_neg (by omega), if_neg (by omega)]
  have hwf := gV hO (oA hgone)
  rw [if_neg (fun h => by rw [hgone] at h; simp at h)] at hwf
  rw [if_pos (BK a3), OK hh] at hwf
  have s7 := St.drop e0 (.cons _ (List.Sublist.refl _))
  rw [pM hw0 hwf]
  exact ⟨_, rfl, _, a7, .inl ⟨rfl, s7⟩⟩
  refine gB ?_
  refine dy ?_
  refine wn e3 ?_
  refine aF ?_
  refine sk fun db e4 => ?_
  refine aC ?_
  by_cases l4 : l.length = 8
  refine iQ ?_
  refine dy ?_
  refine wn e4 ?_
  refine aJ ?_
  refine sk fun dc l5 => ?_
  refine aC ?_
  refine wn l5 ?_
  refine aP ?_
  try simp only [xt]
  refine bR (cC rfl (gD rfl) (gD rfl)) ?_
  skip
  have hw0 : wrE r = 0 := by unfold wrE; rw [if_neg (by omega), if_pos hgone, if_neg (by omega), if_neg (by omega)]
  have hwf := gV hO (oA hgone)
  rw [if_neg (fun h => by rw [hgone] at h; simp at h)] at hwf
  rw [if_neg (uX a3), if_pos (by rw [jO, if_neg (by rw [hh]; simp)]; omega)] at hwf
  have s8 := St.drop e0 (.cons _ (List.Sublist.refl _))
  rw [BJ hw0 hwf]
  refine ⟨_, rfl, _, a7, .inr ⟨(by decide : (11 : Int) ≠ 0), rfl, St.dropRow s8 (.cons _ (.refl _))⟩⟩
  refine gB ?_
  refine dy ?_
  refine wn e4 ?_
  refine aF ?_
  refine aH ?_
  refine k9 _ _ ?_
  refine sk fun dd l6 => ?_
  refine aC ?_
  refine aR e0 rfl (fn1 (gN _ _)) (cZ _ _ _ r.name (e0).sat (h0.mono a7) (by omega)) ?_
  intro dg dh dj s9 e5 q7
  obtain ⟨d0, d1, rfl, _⟩ := q7.shape
  refine dx ?_
  refine dr (.agg #[(.slice d0 r.name.length d1), (.slice j8 (gP ([] : List Pr) r.key).length e1)]) (aL (fY rfl rfl) (by kernel_rfl)) ?_
  simp only [pq]
  refine bD s9 (v := fun n => .slice (aA n 0) 1 1) rfl (bS (ps := #[(0, (.agg #[(.slice d0 r.name.length d1), (.slice j8 (gP ([] : List Pr) r.key).length e1)]))]) (cells := #[(.slice d0 r.name.length d1), (.slice j8 (gP ([] : List Pr) r.key).length e1)]) (E := 66) (cH rfl) (fun w => by kernel_rfl)) (fun t0 dk t1 => ?_)
  refine xC (L := (⟨n2, [(.slice x0 r.name.length y0), (.slice x1 r.key.length y1), (.bool r.gone), (.slice x3 r.value.length y3)], 39⟩ :: L0)) (M := fun v_ => (bZ 2 TnC TnC.mono 66 w0.heap.size v_ (l.take (aU l r.name) ++ (r.name, (gP ([] : List Pr) r.key)) :: l.drop (aU l r.name)) :: M0)) rfl (cK (vs := #[(.slice a l.length c), (nI (aU l r.name)), (.slice (aA t0 0) 1 1)]) (JS rfl rfl rfl) rfl (ZX _ _)) (xO (p := (r.name, (gP ([] : List Pr) r.key))) TnC.one t1 rfl ⟨_, _, rfl, q7, (j7.mono e5)⟩ (by omega) hpl) ?_
  intro dm dq t2
  simp only [pq]
  iterate 2 refine dy ?_
  refine wn l6 ?_
  refine aP ?_
  try simp only [xt]
  refine bR (cC rfl (gD rfl) (gD rfl)) ?_
  skip
  have hw0 : wrE r = 0 := by unfold wrE; rw [if_neg (by omega), if_pos hgone, if_neg (by omega), if_neg (by omega)]
  have hwf := gV hO (oA hgone)
  rw [if_neg (fun h => by rw [hgone] at h; simp at h)] at hwf
  rw [if_neg (uX a3), if_neg (by rw [jO, if_neg (by rw [hh]; simp)]; omega), OI hh] at hwf
  have t3 := St.drop t2 (.cons _ (List.Sublist.refl _))
  rw [pM hw0 hwf]
  exact ⟨_, rfl, _, (a7.trans e5), .inl ⟨rfl, t3⟩⟩
  refine aB ?_
  refine aC ?_
  refine aR b5 rfl (fn2 (DJ _ _)) (AA _ _ _ _ ([] : List Pr) r.key (b5).sat (Sl.nil _ _ _) h1 (TreeOk.nil 60) hk) ?_
  intro ds du dv t4 l7 t5
  obtain ⟨_, rfl, t6⟩ := t5
  obtain ⟨dw, dz, rfl, _⟩ := Sl.shape t6
  refine aC ?_
  refine wlK d9 ?_
  refine sk fun ea l8 => ?_
  refine dx ?_
  refine dr bF (cF (m := (cJ r.key.length)) (n := (0 : Int)) (b := false) rfl rfl (beq_eq_false_iff_ne.2 (hk))) ?_
  refine aC ?_
  refine wn l8 ?_
  refine aF ?_
  refine aH ?_
  refine a5 _ _ ?_
  refine aE fun eb t7 => ?_
  refine aM ?_
  refine sk fun ec l9 => ?_
  refine dx ?_
  refine dr bT (cG (m := (cJ r.key.length)) (n := (0 : Int)) (b := true) rfl rfl (bne_iff_ne.2 (hk))) ?_
  refine dy ?_
  simp only [pq]
  refine wn l9 ?_
  refine aJ ?_
  refine sk fun ed m0 => ?_
  refine aC ?_
  refine wn m0 ?_
  refine aP ?_
  try simp only [xt]
  refine bodyPost_ret (v := (.tuple #[(.slice none 0 0), (.int .i64 (cJ r.key.length))])) ?_ rfl ?_
  exact cC rfl rfl rfl
  skip
  have hwe : wrE r = cJ r.key.length := by unfold wrE; rw [if_neg (by omega), if_pos hgone, if_pos hk]
  have hne : wrE r ≠ 0 := by rw [hwe]; exact hk
  have t8 := St.drop t4 (L' := L0) (.cons _ (List.Sublist.refl _))
  rw [tU hne]
  refine ⟨_, by rw [hwe], _, l7, .inr ⟨hne, rfl, St.dropRow t8 (.cons _ (.refl _))⟩⟩
  by_cases hp : fU (r.key, r.value) = 0
  by_cases a6 : 60 < (eV ([] : List Pr) r.key r.value).length
  refine aB ?_
  refine aC ?_
  refine dr (.agg #[(.slice x1 r.key.length y1), (.slice x3 r.value.length y3)]) (aL (fY rfl rfl) (by kernel_rfl)) ?_
  simp only [pq]
  refine aR b5 rfl (fn2 (tQ _ _)) (sE _ _ _ _ ([] : List Pr) (r.key, r.value) (b5).sat (Sl.nil _ _ _) ⟨_, _, _, _, rfl, h1, h3⟩ (TreeOk.nil 60) hb1 hb2 hp a6) ?_
  intro ee eg eh t9 m1 u0
  obtain ⟨_, rfl, u1⟩ := u0
  obtain ⟨ei, ej, rfl, ek, u2⟩ := Sl.shape u1
  unfold maxLen at u2
  refine aC ?_
  refine wlK a5 ?_
  refine aE fun el u3 => ?_
  refine aM ?_
  refine sk fun em m2 => ?_
  refine dx ?_
  refine dr bT (cG (b := true) rfl rfl (by decide)) ?_
  refine dy ?_
  simp only [pq]
  refine wn m2 ?_
  refine aJ ?_
  refine sk fun en m3 => ?_
  refine aC ?_
  refine wn m3 ?_
  refine aP ?_
  try simp only [xt]
  refine bR (cC rfl (gD rfl) (gD rfl)) ?_
  skip
  have hw0 : wrE r = 0 := by unfold wrE; rw [if_neg (by omega), if_neg (by rw [hgone]; simp)]; exact hp
  have hwf := gV hO (lL hgone)
  rw [if_pos ⟨hgone, a6⟩] at hwf
  have u4 := St.drop t9 (.cons _ (List.Sublist.refl _))
  rw [BJ hw0 hwf]
  refine ⟨_, rfl, _, m1, .inr ⟨(by decide : (11 : Int) ≠ 0), rfl, St.dropRow u4 (.cons _ (.refl _))⟩⟩
  refine aB ?_
  refine aC ?_
  refine dr (.agg #[(.slice x1 r.key.length y1), (.slice x3 r.value.length y3)]) (aL (fY rfl rfl) (by kernel_rfl)) ?_
  simp only [pq]
  refine aR b5 rfl (fn2 (tQ _ _)) (tV _ _ _ _ ([] : List Pr) (r.key, r.value) (b5).sat (Sl.nil _ _ _) ⟨_, _, _, _, rfl, h1, h3⟩ (TreeOk.nil 60) hb1 hb2 hp a6) ?_
  intro u5 u6 u7 b6 a4 m4
  obtain ⟨_, rfl, b7⟩ := m4
  obtain ⟨b9, a8, rfl, e6, m5⟩ := Sl.shape b7
  unfold maxLen at m5
  have e6 : (eV ([] : List Pr) r.key r.value).length ≤ a8 := e6
  have b7 : Prs _ (.slice b9 (eV ([] : List Pr) r.key r.value).length a8) (eV ([] : List Pr) r.key r.value) := b7
  refine aC ?_
  refine wlK a5 ?_
  refine aE fun u8 e7 => ?_
  refine aM ?_
  refine sk fun u9 e8 => ?_
  refine dx ?_
  refine dr bF (cG (b := false) rfl rfl (by decide)) ?_
  refine dy ?_
  simp only [pq]
  refine wn e8 ?_
  refine aF ?_
  refine sk fun v0 e9 => ?_
  refine aC ?_
  refine wn e9 ?_
  refine aF ?_
  refine sk fun v1 f0 => ?_
  refine aC ?_
  refine wn f0 ?_
  refine aF ?_
  refine sk fun v2 c2 => ?_
  refine aC ?_
  by_cases a3 : (eV ([] : List Pr) r.key r.value).length = 0
  refine iQ ?_
  refine dy ?_
  refine wn c2 ?_
  refine aJ ?_
  refine sk fun v3 f1 => ?_
  refine aC ?_
  refine wn f1 ?_
  refine aP ?_
  try simp only [xt]
  refine bR (cC rfl (gD rfl) (gD rfl)) ?_
  skip
  have hw0 : wrE r = 0 := by unfold wrE; rw [if_neg (by omega), if_neg (by rw [hgone]; simp)]; exact hp
  have hwf := gV hO (lL hgone)
  rw [if_neg (fun h => a6 h.2)] at hwf
  rw [if_pos (BK a3), OK hh] at hwf
  have m6 := St.drop b6 (.cons _ (List.Sublist.refl _))
  rw [pM hw0 hwf]
  exact ⟨_, rfl, _, a4, .inl ⟨rfl, m6⟩⟩
  refine gB ?_
  refine dy ?_
  refine wn c2 ?_
  refine aF ?_
  refine sk fun v4 c3 => ?_
  refine aC ?_
  by_cases l4 : l.length = 8
  refine iQ ?_
  refine dy ?_
  refine wn c3 ?_
  refine aJ ?_
  refine sk fun v5 f2 => ?_
  refine aC ?_
  refine wn f2 ?_
  refine aP ?_
  try simp only [xt]
  refine bR (cC rfl (gD rfl) (gD rfl)) ?_
  skip
  have hw0 : wrE r = 0 := by unfold wrE; rw [if_neg (by omega), if_neg (by rw [hgone]; simp)]; exact hp
  have hwf := gV hO (lL hgone)
  rw [if_neg (fun h => a6 h.2)] at hwf
  rw [if_neg (uX a3), if_pos (by rw [jO, if_neg (by rw [hh]; simp)]; omega)] at hwf
  have m7 := St.drop b6 (.cons _ (List.Sublist.refl _))
  rw [BJ hw0 hwf]
  refine ⟨_, rfl, _, a4, .inr ⟨(by decide : (11 : Int) ≠ 0), rfl, St.dropRow m7 (.cons _ (.refl _))⟩⟩
  refine gB ?_
  refine dy ?_
  refine wn c3 ?_
  refine aF ?_
  refine aH ?_
  refine e7 _ _ ?_
  refine sk fun v6 f3 => ?_
  refine aC ?_
  refine aR b6 rfl (fn1 (gN _ _)) (cZ _ _ _ r.name (b6).sat (h0.mono a4) (by omega)) ?_
  intro v7 v8 v9 m8 c4 f4
  obtain ⟨a9, b0, rfl, _⟩ := f4.shape
  refine dx ?_
  refine dr (.agg #[(.slice a9 r.name.length b0), (.slice b9 (eV ([] : List Pr) r.key r.value).length a8)]) (aL (fY rfl rfl) (by kernel_rfl)) ?_
  simp only [pq]
  refine bD m8 (v := fun n => .slice (aA n 0) 1 1) rfl (bS (ps := #[(0, (.agg #[(.slice a9 r.name.length b0), (.slice b9 (eV ([] : List Pr) r.key r.value).length a8)]))]) (cells := #[(.slice a9 r.name.length b0), (.slice b9 (eV ([] : List Pr) r.key r.value).length a8)]) (E := 66) (cH rfl) (fun w => by kernel_rfl)) (fun m9 w1 n0 => ?_)
  refine xC (L := (⟨n2, [(.slice x0 r.name.length y0), (.slice x1 r.key.length y1), (.bool r.gone), (.slice x3 r.value.length y3)], 39⟩ :: L0)) (M := fun v_ => (bZ 2 TnC TnC.mono 66 w0.heap.size v_ (l.take (aU l r.name) ++ (r.name, (eV ([] : List Pr) r.key r.value)) :: l.drop (aU l r.name)) :: M0)) rfl (cK (vs := #[(.slice a l.length c), (nI (aU l r.name)), (.slice (aA m9 0) 1 1)]) (JS rfl rfl rfl) rfl (ZX _ _)) (xO (p := (r.name, (eV ([] : List Pr) r.key r.value))) TnC.one n0 rfl ⟨_, _, rfl, f4, (b7.mono c4)⟩ (by omega) hpl) ?_
  intro w2 w4 n1
  simp only [pq]
  iterate 2 refine dy ?_
  refine wn f3 ?_
  refine aP ?_
  try simp only [xt]
  refine bR (cC rfl (gD rfl) (gD rfl)) ?_
  skip
  have hw0 : wrE r = 0 := by unfold wrE; rw [if_neg (by omega), if_neg (by rw [hgone]; simp)]; exact hp
  have hwf := gV hO (lL hgone)
  rw [if_neg (fun h => a6 h.2)] at hwf
  rw [if_neg (uX a3), if_neg (by rw [jO, if_neg (by rw [hh]; simp)]; omega), OI hh] at hwf
  have n3 := St.drop n1 (.cons _ (List.Sublist.refl _))
  rw [pM hw0 hwf]
  exact ⟨_, rfl, _, (a4.trans c4), .inl ⟨rfl, n3⟩⟩
  refine aB ?_
  refine aC ?_
  refine dr (.agg #[(.slice x1 r.key.length y1), (.slice x3 r.value.length y3)]) (aL (fY rfl rfl) (by kernel_rfl)) ?_
  simp only [pq]
  refine aR b5 rfl (fn2 (tQ _ _)) (AB _ _ _ _ ([] : List Pr) (r.key, r.value) (b5).sat (Sl.nil _ _ _) ⟨_, _, _, _, rfl, h1, h3⟩ (TreeOk.nil 60) hb1 hb2 hp) ?_
  intro w5 w6 w8 n4 f5 n5
  obtain ⟨_, rfl, n6⟩ := n5
  obtain ⟨w9, x2, rfl, _⟩ := Sl.shape n6
  refine aC ?_
  refine wlK a5 ?_
  refine aE fun x4 q8 => ?_
  refine aM ?_
  refine sk fun x5 f6 => ?_
  refine dx ?_
  refine dr bT (cG (m := (fU (r.key, r.value))) (n := (0 : Int)) (b := true) rfl rfl (bne_iff_ne.2 (hp))) ?_
  refine dy ?_
  simp only [pq]
  refine wn f6 ?_
  refine aJ ?_
  refine sk fun x6 f7 => ?_
  refine aC ?_
  refine wn f7 ?_
  refine aP ?_
  try simp only [xt]
  refine bodyPost_ret (v := (.tuple #[(.slice none 0 0), (.int .i64 (fU (r.key, r.value)))])) ?_ rfl ?_
  exact cC rfl rfl rfl
  skip
  have hwe : wrE r = fU (r.key, r.value) := by unfold wrE; rw [if_neg (by omega), if_neg (by rw [hgone]; simp)]
  have hne : wrE r ≠ 0 := by rw [hwe]; exact hp
  have n7 := St.drop n4 (L' := L0) (.cons _ (List.Sublist.refl _))
  rw [tU hne]
  refine ⟨_, by rw [hwe], _, f5, .inr ⟨hne, rfl, St.dropRow n7 (.cons _ (.refl _))⟩⟩
 | true =>
  have hpos := OG ok.rise hh
  obtain ⟨t, ht⟩ : ∃ t, l[aU l r.name]? = some t := ⟨l[aU l r.name], List.getElem?_eq_getElem hpos⟩
  have hO := IH ok.rise hh ht
  have htn : t.1 = r.name := by obtain ⟨_, h2⟩ := (iN ok.rise).1 hh; obtain ⟨_, rfl⟩ := List.getElem?_eq_some_iff.1 ht; exact h2
  obtain ⟨b1, rfl⟩ := Own.addr0 (S8.own (i := 0) rfl) (by omega)
  refine aB ?_
  refine aC ?_
  obtain ⟨x7, f8, f9, d2⟩ := oK S8 (i := 0) rfl
  refine aI (v := (.tuple #[(nI (aU l r.name)), bT])) S8 rfl (fn2 (RK _ _)) (UP f8 d2 (h0.mono f9) ok.rise (by omega) hh) (fun x8 a0 => ?_)
  refine aC ?_
  refine wlK d7 ?_
  refine sk fun x9 g0 => ?_
  refine aC ?_
  refine wn g0 ?_
  refine aE fun y2 g1 => ?_
  refine sk fun y4 g2 => ?_
  refine dx ?_
  refine wn g2 ?_
  refine aJ ?_
  obtain ⟨y5, a2, q9, r0, r1, r2, y6, n8, y7, b2⟩ := Jt (a0.own (i := 0) rfl) ht
  injection a2 with a2; injection a2 with a2; subst a2
  refine aB ?_
  iterate 2 refine dx ?_
  refine dr (pP b1 (0 + (aU l r.name) * 2)) (bP (i := (aU l r.name)) (sz := 2) Tryz.underlying24 (cX _) rfl rfl rfl (hpos) rfl) ?_
  simp only [pq]
  refine df (rY _ _) ?_
  refine dr _ (aD rfl (aW (BC _) n8)) ?_
  refine dy ?_
  simp only [pq]
  refine wlK g1 ?_
  refine sk fun y8 g3 => ?_
  refine dy ?_
  refine wn g3 ?_
  refine aE fun y9 a1 => ?_
  refine sk fun z0 g4 => ?_
  refine aC ?_
  refine wn g4 ?_
  refine wp_cond_split rfl (fun hgone => ?_) (fun hgone => ?_)
  refine aE fun z1 c5 => ?_
  by_cases hk : cJ r.key.length = 0
  refine aB ?_
  refine aC ?_
  refine aR a0 rfl (fn2 (DJ _ _)) (wA _ _ _ _ t.2 r.key (a0).sat b2 h1 (show TreeOk 60 t.2 from ok.tree t (List.mem_of_getElem? ht)) (iV.1 hk)) ?_
  intro z2 z3 z4 d3 b3 n9
  obtain ⟨_, rfl, c0⟩ := n9
  obtain ⟨g5, d4, rfl, g6, o0⟩ := Sl.shape c0
  unfold maxLen at o0
  have g6 : (gP t.2 r.key).length ≤ d4 := g6
  have c0 : Prs _ (.slice g5 (gP t.2 r.key).length d4) (gP t.2 r.key) := c0
  refine aC ?_
  refine wlK c5 ?_
  refine sk fun z5 c6 => ?_
  refine dx ?_
  refine dr bT (cF (b := true) rfl rfl (by decide)) ?_
  refine aC ?_
  by_cases k6 : 0 < r.value.length
  refine sX ?_
  refine dp ?_
  refine wn c6 ?_
  refine aJ ?_
  refine aB ?_
  refine dy ?_
  simp only [pq]
  refine wlK a1 ?_
  refine aE fun z6 r3 => ?_
  refine aM ?_
  refine sk fun z7 g7 => ?_
  refine dx ?_
  refine dr bT (cG (b := true) rfl rfl (by decide)) ?_
  refine dy ?_
  simp only [pq]
  refine wn g7 ?_
  refine aJ ?_
  refine sk fun z8 g8 => ?_
  refine aC ?_
  refine wn g8 ?_
  refine aP ?_
  try simp only [xt]
  refine bR (cC rfl (gD rfl) (gD rfl)) ?_
  skip
  have hwe : wrE r = 4 := by unfold wrE; rw [if_neg (by omega), if_pos hgone, if_neg (by omega), if_pos (by omega)]
  have hne : wrE r ≠ 0 := by rw [hwe]; decide
  have o1 := St.drop d3 (.cons _ (List.Sublist.refl _))
  rw [tU hne]
  refine ⟨_, by rw [hwe], _, b3, .inr ⟨hne, rfl, St.dropRow o1 (.cons _ (.refl _))⟩⟩
  refine mO ?_
  refine dp ?_
  refine wn c6 ?_
  refine aF ?_
  refine aH ?_
  refine a1 _ _ ?_
  refine aE fun z9 r4 => ?_
  refine aM ?_
  refine sk fun aa g9 => ?_
  refine dx ?_
  refine dr bF (cG (b := false) rfl rfl (by decide)) ?_
  refine dy ?_
  simp only [pq]
  refine wn g9 ?_
  refine aF ?_
  refine sk fun ab c7 => ?_
  refine aC ?_
  by_cases b4 : (gP t.2 r.key).length = 0
  refine iQ ?_
  refine aC ?_
  refine wn c7 ?_
  refine aJ ?_
  refine sk fun ac h4 => ?_
  refine aC ?_
  refine cO ((aU l r.name) + 1) ?_
  refine xC (L := (⟨n2, [(.slice x0 r.name.length y0), (.slice x1 r.key.length y1), (.bool r.gone), (.slice x3 r.value.length y3)], 39⟩ :: L0)) (M := fun v_ => (bZ 2 TnC TnC.mono 66 w0.heap.size v_ (l.take (aU l r.name) ++ l.drop ((aU l r.name) + 1)) :: M0)) rfl (cK (vs := #[(.slice (aA b1 0) l.length c), (nI (aU l r.name)), (nI ((aU l r.name) + 1))]) (JS rfl rfl rfl) rfl (ZW _ _)) (xP TnC.one d3 (by omega) hpos) ?_
  intro ad ae o2
  refine aC ?_
  refine wn h4 ?_
  refine aP ?_
  try simp only [xt]
  refine bR (cC rfl (gD rfl) (gD rfl)) ?_
  skip
  have hw0 : wrE r = 0 := by unfold wrE; rw [if_neg (by omega), if_pos hgone, if_neg (by omega), if_neg (by omega)]
  have hwf := gV hO (oA hgone)
  rw [if_neg (fun h => by rw [hgone] at h; simp at h)] at hwf
  rw [if_pos (BK b4), OJ hh] at hwf
  have o3 := St.drop o2 (.cons _ (List.Sublist.refl _))
  rw [pM hw0 hwf]
  exact ⟨_, rfl, _, b3, .inl ⟨rfl, o3⟩⟩
  refine gB ?_
  refine aC ?_
  refine wn c7 ?_
  refine aF ?_
  refine sk fun af h5 => ?_
  refine aC ?_
  refine wn h5 ?_
  refine aJ ?_
  refine sk fun ag h6 => ?_
  refine aC ?_
  refine dr (pP b1 (0 + (aU l r.name) * 2)) (bP (i := (aU l r.name)) (sz := 2) Tryz.underlying24 (cX _) rfl rfl rfl (hpos) rfl) ?_
  refine df (rY _ _) ?_
  refine IF (r := 0) (i := (aU l r.name)) (j := 1) (p := (r.name, (gP t.2 r.key))) (u := (.slice g5 (gP t.2 r.key).length d4)) d3 rfl rfl (by omega) (by decide) rfl rfl (by omega) (JU) rfl rfl (fun cs q hq hR => ?_) (Nat.le_refl _) (fun ah o4 => ?_)
  obtain ⟨x, y, rfl, hx, hy⟩ := hR
  obtain rfl : q = t := by rw [hq] at ht; exact Option.some.inj ht
  exact ⟨_, _, rfl, by rw [← htn]; exact hx, c0⟩
  refine wn h6 ?_
  refine sk fun ai h7 => ?_
  refine aC ?_
  refine wn h7 ?_
  refine aP ?_
  try simp only [xt]
  refine bR (cC rfl (gD rfl) (gD rfl)) ?_
  skip
  have hw0 : wrE r = 0 := by unfold wrE; rw [if_neg (by omega), if_pos hgone, if_neg (by omega), if_neg (by omega)]
  have hwf := gV hO (oA hgone)
  rw [if_neg (fun h => by rw [hgone] at h; simp at h)] at hwf
  rw [if_neg (uX b4), if_neg (by rw [jO, if_pos hh]; omega), OH ok.rise hh] at hwf
  have o5 := St.drop o4 (.cons _ (List.Sublist.refl _))
  rw [pM hw0 hwf]
  exact ⟨_, rfl, _, b3, .inl ⟨rfl, o5⟩⟩
  refine aB ?_
  refine aC ?_
  refine aR a0 rfl (fn2 (DJ _ _)) (AA _ _ _ _ t.2 r.key (a0).sat b2 h1 (show TreeOk 60 t.2 from ok.tree t (List.mem_of_getElem? ht)) hk) ?_
  intro aj ak al o6 h8 o7
  obtain ⟨_, rfl, o8⟩ := o7
  obtain ⟨am, an, rfl, _⟩ := Sl.shape o8
  refine aC ?_
  refine wlK c5 ?_
  refine sk fun ao h9 => ?_
  refine dx ?_
  refine dr bF (cF (m := (cJ r.key.length)) (n := (0 : Int)) (b := false) rfl rfl (beq_eq_false_iff_ne.2 (hk))) ?_
  refine aC ?_
  refine wn h9 ?_
  refine aF ?_
  refine aH ?_
  refine a1 _ _ ?_
  refine aE fun ap r5 => ?_
  refine aM ?_
  refine sk fun aq i0 => ?_
  refine dx ?_
  refine dr bT (cG (m := (cJ r.key.length)) (n := (0 : Int)) (b := true) rfl rfl (bne_iff_ne.2 (hk))) ?_
  refine dy ?_
  simp only [pq]
  refine wn i0 ?_
  refine aJ ?_
  refine sk fun ar i1 => ?_
  refine aC ?_
  refine wn i1 ?_
  refine aP ?_
  try simp only [xt]
  refine bodyPost_ret (v := (.tuple #[(.slice none 0 0), (.int .i64 (cJ r.key.length))])) ?_ rfl ?_
  exact cC rfl rfl rfl
  skip
  have hwe : wrE r = cJ r.key.length := by unfold wrE; rw [if_neg (by omega), if_pos hgone, if_pos hk]
  have hne : wrE r ≠ 0 := by rw [hwe]; exact hk
  have o9 := St.drop o6 (L' := L0) (.cons _ (List.Sublist.refl _))
  rw [tU hne]
  refine ⟨_, by rw [hwe], _, h8, .inr ⟨hne, rfl, St.dropRow o9 (.cons _ (.refl _))⟩⟩
  by_cases hp : fU (r.key, r.value) = 0
  by_cases a6 : 60 < (eV t.2 r.key r.value).length
  refine aB ?_
  refine aC ?_
  refine dr (.agg #[(.slice x1 r.key.length y1), (.slice x3 r.value.length y3)]) (aL (fY rfl rfl) (by kernel_rfl)) ?_
  simp only [pq]
  refine aR a0 rfl (fn2 (tQ _ _)) (sE _ _ _ _ t.2 (r.key, r.value) (a0).sat b2 ⟨_, _, _, _, rfl, h1, h3⟩ (show TreeOk 60 t.2 from ok.tree t (List.mem_of_getElem? ht)) hb1 hb2 hp a6) ?_
  intro au av aw p0 i2 p1
  obtain ⟨_, rfl, p2⟩ := p1
  obtain ⟨ax, ay, rfl, az, p3⟩ := Sl.shape p2
  unfold maxLen at p3
  refine aC ?_
  refine wlK a1 ?_
  refine aE fun ba r6 => ?_
  refine aM ?_
  refine sk fun bb i3 => ?_
  refine dx ?_
  refine dr bT (cG (b := true) rfl rfl (by decide)) ?_
  refine dy ?_
  simp only [pq]
  refine wn i3 ?_
  refine aJ ?_
  refine sk fun bc i4 => ?_
  refine aC ?_
  refine wn i4 ?_
  refine aP ?_
  try simp only [xt]
  refine bR (cC rfl (gD rfl) (gD rfl)) ?_
  skip
  have hw0 : wrE r = 0 := by unfold wrE; rw [if_neg (by omega), if_neg (by rw [hgone]; simp)]; exact hp
  have hwf := gV hO (lL hgone)
  rw [if_pos ⟨hgone, a6⟩] at hwf
  have p4 := St.drop p0 (.cons _ (List.Sublist.refl _))
  rw [BJ hw0 hwf]
  refine ⟨_, rfl, _, i2, .inr ⟨(by decide : (11 : Int) ≠ 0), rfl, St.dropRow p4 (.cons _ (.refl _))⟩⟩
  refine aB ?_
  refine aC ?_
  refine dr (.agg #[(.slice x1 r.key.length y1), (.slice x3 r.value.length y3)]) (aL (fY rfl rfl) (by kernel_rfl)) ?_
  simp only [pq]
  refine aR a0 rfl (fn2 (tQ _ _)) (tV _ _ _ _ t.2 (r.key, r.value) (a0).sat b2 ⟨_, _, _, _, rfl, h1, h3⟩ (show TreeOk 60 t.2 from ok.tree t (List.mem_of_getElem? ht)) hb1 hb2 hp a6) ?_
  intro bd be bf i5 c8 p5
  obtain ⟨_, rfl, c1⟩ := p5
  obtain ⟨i6, d5, rfl, i7, p6⟩ := Sl.shape c1
  unfold maxLen at p6
  have i7 : (eV t.2 r.key r.value).length ≤ d5 := i7
  have c1 : Prs _ (.slice i6 (eV t.2 r.key r.value).length d5) (eV t.2 r.key r.value) := c1
  refine aC ?_
  refine wlK a1 ?_
  refine aE fun bg r7 => ?_
  refine aM ?_
  refine sk fun bh i8 => ?_
  refine dx ?_
  refine dr bF (cG (b := false) rfl rfl (by decide)) ?_
  refine dy ?_
  simp only [pq]
  refine wn i8 ?_
  refine aF ?_
  refine sk fun bi c9 => ?_
  refine aC ?_
  by_cases b4 : (eV t.2 r.key r.value).length = 0
  refine iQ ?_
  refine aC ?_
  refine wn c9 ?_
  refine aJ ?_
  refine sk fun bj i9 => ?_
  refine aC ?_
  refine cO ((aU l r.name) + 1) ?_
  refine xC (L := (⟨n2, [(.slice x0 r.name.length y0), (.slice x1 r.key.length y1), (.bool r.gone), (.slice x3 r.value.length y3)], 39⟩ :: L0)) (M := fun v_ => (bZ 2 TnC TnC.mono 66 w0.heap.size v_ (l.take (aU l r.name) ++ l.drop ((aU l r.name) + 1)) :: M0)) rfl (cK (vs := #[(.slice (aA b1 0) l.length c), (nI (aU l r.name)), (nI ((aU l r.name) + 1))]) (JS rfl rfl rfl) rfl (ZW _ _)) (xP TnC.one i5 (by omega) hpos) ?_
  intro bk bl p7
  refine aC ?_
  refine wn i9 ?_
  refine aP ?_
  try simp only [xt]
  refine bR (cC rfl (gD rfl) (gD rfl)) ?_
  skip
  have hw0 : wrE r = 0 := by unfold wrE; rw [if_neg (by omega), if_neg (by rw [hgone]; simp)]; exact hp
  have hwf := gV hO (lL hgone)
  rw [if_neg (fun h => a6 h.2)] at hwf
  rw [if_pos (BK b4), OJ hh] at hwf
  have p8 := St.drop p7 (.cons _ (List.Sublist.refl _))
  rw [pM hw0 hwf]
  exact ⟨_, rfl, _, c8, .inl ⟨rfl, p8⟩⟩
  refine gB ?_
  refine aC ?_
  refine wn c9 ?_
  refine aF ?_
  refine sk fun bm j0 => ?_
  refine aC ?_
  refine wn j0 ?_
  refine aJ ?_
  refine sk fun bn j1 => ?_
  refine aC ?_
  refine dr (pP b1 (0 + (aU l r.name) * 2)) (bP (i := (aU l r.name)) (sz := 2) Tryz.underlying24 (cX _) rfl rfl rfl (hpos) rfl) ?_
  refine df (rY _ _) ?_
  refine IF (r := 0) (i := (aU l r.name)) (j := 1) (p := (r.name, (eV t.2 r.key r.value))) (u := (.slice i6 (eV t.2 r.key r.value).length d5)) i5 rfl rfl (by omega) (by decide) rfl rfl (by omega) (JU) rfl rfl (fun cs q hq hR => ?_) (Nat.le_refl _) (fun bo p9 => ?_)
  obtain ⟨x, y, rfl, hx, hy⟩ := hR
  obtain rfl : q = t := by rw [hq] at ht; exact Option.some.inj ht
  exact ⟨_, _, rfl, by rw [← htn]; exact hx, c1⟩
  refine wn j1 ?_
  refine sk fun bp j2 => ?_
  refine aC ?_
  refine wn j2 ?_
  refine aP ?_
  try simp only [xt]
  refine bR (cC rfl (gD rfl) (gD rfl)) ?_
  skip
  have hw0 : wrE r = 0 := by unfold wrE; rw [if_neg (by omega), if_neg (by rw [hgone]; simp)]; exact hp
  have hwf := gV hO (lL hgone)
  rw [if_neg (fun h => a6 h.2)] at hwf
  rw [if_neg (uX b4), if_neg (by rw [jO, if_pos hh]; omega), OH ok.rise hh] at hwf
  have q0 := St.drop p9 (.cons _ (List.Sublist.refl _))
  rw [pM hw0 hwf]
  exact ⟨_, rfl, _, c8, .inl ⟨rfl, q0⟩⟩
  refine aB ?_
  refine aC ?_
  refine dr (.agg #[(.slice x1 r.key.length y1), (.slice x3 r.value.length y3)]) (aL (fY rfl rfl) (by kernel_rfl)) ?_
  simp only [pq]
  refine aR a0 rfl (fn2 (tQ _ _)) (AB _ _ _ _ t.2 (r.key, r.value) (a0).sat b2 ⟨_, _, _, _, rfl, h1, h3⟩ (show TreeOk 60 t.2 from ok.tree t (List.mem_of_getElem? ht)) hb1 hb2 hp) ?_
  intro bq br bs q1 j3 q2
  obtain ⟨_, rfl, q3⟩ := q2
  obtain ⟨bt, bu, rfl, _⟩ := Sl.shape q3
  refine aC ?_
  refine wlK a1 ?_
  refine aE fun bw r8 => ?_
  refine aM ?_
  refine sk fun bx j4 => ?_
  refine dx ?_
  refine dr bT (cG (m := (fU (r.key, r.value))) (n := (0 : Int)) (b := true) rfl rfl (bne_iff_ne.2 (hp))) ?_
  refine dy ?_
  simp only [pq]
  refine wn j4 ?_
  refine aJ ?_
  refine sk fun bz j5 => ?_
  refine aC ?_
  refine wn j5 ?_
  refine aP ?_
  try simp only [xt]
  refine bodyPost_ret (v := (.tuple #[(.slice none 0 0), (.int .i64 (fU (r.key, r.value)))])) ?_ rfl ?_
  exact cC rfl rfl rfl
  skip
  have hwe : wrE r = fU (r.key, r.value) := by unfold wrE; rw [if_neg (by omega), if_neg (by rw [hgone]; simp)]
  have hne : wrE r ≠ 0 := by rw [hwe]; exact hp
  have q4 := St.drop q1 (L' := L0) (.cons _ (List.Sublist.refl _))
  rw [tU hne]
  refine ⟨_, by rw [hwe], _, j3, .inr ⟨hne, rfl, St.dropRow q4 (.cons _ (.refl _))⟩⟩
 refine qS ?_
 refine wn hK9 ?_
 refine aJ ?_
 refine sk fun ca j6 => ?_
 refine aC ?_
 refine wn j6 ?_
 refine aP ?_
 try simp only [xt]
 refine bR (cC rfl (gD rfl) (gD rfl)) ?_
 skip
 have hwe : wrE r = iH r.name.length := by unfold wrE; rw [if_pos d6]
 have hne : wrE r ≠ 0 := by rw [hwe]; exact d6
 have q5 := St.drop S8 (.cons _ (List.Sublist.refl _))
 rw [tU hne]
 refine ⟨_, by rw [hwe], _, (Le.refl _), .inr ⟨hne, rfl, St.dropRow q5 (.cons _ (.refl _))⟩⟩
def Ai (r : aO) (e : Int) (F : Fz) (u : Value) : Prop := ∃ x, u = .tuple #[x, .int .i64 e] ∧ Tns F x r
theorem kW (f : aO) (x : Wr) (ws : List Wr) : dP f (x :: ws) = if wrE x ≠ 0 then (wrE x, []) else match eR f x with | none => (11, []) | some g => dP g ws := rfl
theorem mQ : ∀ {ws : List Wr} {f : aO} {w : Wr}, (dP f ws).1 = 0 → dP f (ws ++ [w]) = dP (dP f ws).2 [w]
  | [], f, w, _ => rfl
  | x :: ws, f, w, h => by
    rw [kW] at h
    rw [List.cons_append, kW f x (ws ++ [w]), kW f x ws]
    by_cases hx : wrE x ≠ 0
    · rw [if_pos hx] at h; exact absurd h hx
    · rw [if_neg hx] at h
      rw [if_neg hx, if_neg hx]
      cases hw : eR f x with
      | none => rw [hw] at h; simp at h
      | some g =>
        rw [hw] at h
        simp only at h ⊢
        exact mQ h
theorem AC : ∀ {ws us : List Wr} {f : aO}, (dP f ws).1 ≠ 0 → dP f (ws ++ us) = dP f ws
  | [], us, f, h => by simp [dP] at h
  | x :: ws, us, f, h => by
    rw [kW] at h
    rw [List.cons_append, kW f x (ws ++ us), kW f x ws]
    by_cases hx : wrE x ≠ 0
    · rw [if_pos hx, if_pos hx]
    · rw [if_neg hx] at h
      rw [if_neg hx, if_neg hx]
      cases hw : eR f x with
      | none => rfl
      | some g =>
        rw [hw] at h
        simp only at h ⊢
        exact AC h
theorem tW : ∀ {ws : List Wr} {f : aO}, ForestOk 60 f → (dP f ws).1 = 0 → ForestOk 60 (dP f ws).2
  | [], f, hf, _ => hf
  | x :: ws, f, hf, h => by
    unfold dP at h ⊢
    by_cases hx : wrE x ≠ 0
    · rw [if_pos hx] at h; exact absurd h hx
    · rw [if_neg hx] at h ⊢
      cases hw : eR f x with
      | none => rw [hw] at h; simp at h
      | some g =>
        rw [hw] at h
        simp only at h ⊢
        exact tW (OF hf (qB.1 (Classical.not_not.1 hx)) hw) h
def iT (f : aO) (ws : List Wr) : Int × aO := if 10 < ws.length then (1, []) else dP f ws
theorem UQ : ∀ {ws : List Wr} {f : aO}, (dP f ws).1 ≠ 0 → (dP f ws).2 = []
  | [], f, h => by simp [dP] at h
  | x :: ws, f, h => by
    unfold dP at h ⊢
    by_cases hx : wrE x ≠ 0
    · rw [if_pos hx]
    · rw [if_neg hx] at h ⊢
      cases hw : eR f x with
      | none => rfl
      | some g => rw [hw] at h; exact UQ h
theorem DS (F : Fz) (w : World) (v u : Value) (l : aO) (ws : List Wr) (hs : Sat w F) (hv : Tns F v l) (hw : Wrs F u ws) (ok1 : ForestOk 60 l) (hb : ∀ r ∈ ws, r.name.length ≤ 100000 ∧ r.key.length ≤ 100000 ∧ r.value.length ≤ 100000) :
    Calls Tryz.prog 22 #[v, u] w (dB w F (Ai (iT l ws).2 (iT l ws).1)) := by
 have ok := oQ.2 ok1
 have hl8 := ok1.len
 obtain ⟨a, c, rfl, hc1, hc2⟩ := Sl.shape hv
 obtain ⟨a2, c2, rfl, hc3, hc4⟩ := Sl.shape hw
 unfold maxLen at hc2 hc4
 obtain ⟨g0, d1, d2, d3, d4⟩ := info_parts uT
 have S := St.start hs
 go_enter Tryz.func22, Tryz.ntmps22
 refine sk fun K1 hK1 => ?_
 iterate 2 refine dy ?_
 refine wn hK1 ?_
 refine aE fun K2 hK2 => ?_
 refine sk fun K3 hK3 => ?_
 refine dx ?_
 simp only [pq]
 refine aI (v := (.int .i64 (fM l))) S rfl (fn1 (KO _ _)) (jX _ _ _ l (S).sat hv) (fun w4 S5 => ?_)
 refine dy ?_
 refine wn hK3 ?_
 refine sk fun K6 hK6 => ?_
 refine dx ?_
 refine dr bF (cG (m := (fM l)) (n := (0 : Int)) (b := false) rfl rfl (bne_eq_false_iff_eq.2 (ok))) ?_
 simp only [pq]
 refine wn hK6 ?_
 refine aF ?_
 refine aH ?_
 refine hK2 _ _ ?_
 refine aE fun K7 hK7 => ?_
 refine sk fun K8 hK8 => ?_
 refine aC ?_
 by_cases d5 : 10 < ws.length
 refine sX ?_
 refine wn hK8 ?_
 refine aJ ?_
 refine sk fun K9 hK9 => ?_
 refine aC ?_
 refine wn hK9 ?_
 refine aP ?_
 try simp only [xt]
 refine bR (cC rfl (gD rfl) (gD rfl)) ?_
 have hall : iT l ws = (1, []) := by unfold iT; rw [if_pos (by omega)]
 rw [hall]
 exact ⟨_, _, rfl, S5.gr, _, rfl, Sl.nil _ _ _⟩
 refine mO ?_
 refine wn hK8 ?_
 refine aF ?_
 refine aH ?_
 refine hK7 _ _ ?_
 refine sk fun g1 a9 => ?_
 refine dx ?_
 refine oJ TnC.mono S5 rfl (fn1 (Hz _ _)) (WH _ _ _ l (S5).sat hv (by omega) (fun t ht => ok1.small ht)) ?_
 intro c8 g2 c9 d6 b0
 refine dy ?_
 simp only [pq]
 refine wn a9 ?_
 refine aE fun g3 b1 => ?_
 refine sk fun g4 b2 => ?_
 refine aC ?_
 refine wn b2 ?_
 refine aM ?_
 refine bA (fun mm aa d7 => ∃ (k : Nat) (v : Value) (b3 : Fz) (a3 : Nat → Value), mm = ws.length - k ∧ a3 = dV aa ∧ aa = ⟨([(.slice a l.length c), (.slice a2 ws.length c2), undef, undef, (a3 4), (a3 5), (.int .i64 (fM l)), v, undef] ++ (usF a3 9 3 ([(.slice a l.length c), (.int .i64 (fM l)), (.int .i64 (fM l)), bF, undef, (.slice a2 ws.length c2), (nI ws.length), bF, (.slice a l.length c), c8, (.slice a2 ws.length c2), (nI ws.length), (nI k)] ++ (usF a3 25 14 [undef])))).toArray, []⟩ ∧ St w F d7 b3 [] [bZ 2 TnC TnC.mono 66 w.heap.size v ((dP l (ws.take k)).2)] ∧ Le c9 b3 ∧ (k ≤ ws.length) ∧ ((dP l (ws.take k)).1 = 0)) _ ⟨0, c8, c9, _, rfl, rfl, rfl, d6, Le.refl _, (by omega), rfl⟩ ?_
 rintro g5 g6 g7 ⟨k, v, b3, a3, rfl, -, hfr, a4, a5, hk, hz⟩ g8 b4
 simp only [uzF, Nat.reduceAdd] at hfr; subst hfr
 refine sk fun g9 a6 => ?_
 by_cases b5 : k < ws.length
 refine eZ ?_
 refine wn a6 ?_
 refine aE fun h0 b6 => ?_
 refine aJ ?_
 refine aH ?_
 refine b6 _ _ ?_
 refine aE fun h1 b7 => ?_
 refine aM ?_
 refine aE fun h2 b9 => ?_
 obtain ⟨p, hp⟩ : ∃ p, ws[k]? = some p := ⟨ws[k], List.getElem?_eq_getElem b5⟩
 obtain ⟨hb0, hb1, hb2⟩ := hb p (List.mem_of_getElem? hp)
 have okk := tW ok1 hz
 obtain ⟨d8, d9, c0, e0, e1, e2, e3, e4, e5, e6, e7, e8, e9, f0, f1, f2⟩ := Wrs.get (hw.mono (b0.trans a5)) hp
 refine aB ?_
 refine dr (pP d8 (d9 + k * 4)) (bP (i := k) (sz := 4) Tryz.underlying40 (fJ _) rfl c0 rfl (by omega) rfl) ?_
 refine dr _ (aD rfl (cN Tryz.underlying39 rfl (cD) (eW (St.fz a4 e6) (St.fz a4 e7) (St.fz a4 e8) (St.fz a4 e9)))) ?_
 simp only [pq]
 refine sA a4 (mI _) fun h3 h4 f3 => ?_
 refine sW 0 f3 (cD) fun h5 d0 => ?_
 refine wlK b9 ?_
 refine sk fun h6 a7 => ?_
 refine dx ?_
 refine dR d0 0 Tryz.underlying39 (cD) ?_
 simp only [pq]
 have hwr := RT (St.drop d0 (L' := []) (.cons _ (List.Sublist.refl _))) (r := p) ⟨_, _, _, _, _, _, rfl, f0, f1, f2⟩ okk hb0 hb1 hb2
 refine doC rfl (fn2 (Ia _ _)) hwr ?_
 rintro e h7 ⟨f4, rfl, f5, c1, ⟨a0, a8⟩ | ⟨a0, rfl, a8⟩⟩
 refine ⟨_, rfl, ?_⟩
 rw [a0]
 have hz2 := a0
 rw [← mQ hz, ← fK hp] at a8
 refine aC ?_
 refine wn a7 ?_
 refine aE fun h8 c3 => ?_
 refine sk fun h9 c4 => ?_
 refine dx ?_
 refine dr bF (cG (b := false) rfl rfl (by decide)) ?_
 simp only [pq]
 refine wn c4 ?_
 refine aF ?_
 refine aH ?_
 refine c3 _ _ ?_
 refine aB ?_
 refine aC ?_
 refine wlK b7 ?_
 refine aB ?_
 refine cO (k + 1) ?_
 refine dx ?_
 simp only [pq]
 refine aG ?_
 exact b4 _ _ _ (by omega) ⟨(k + 1), f4, f5, _, rfl, rfl, rfl, a8, (a5.trans c1), (by omega), (by rw [fK hp, mQ hz]; exact hz2)⟩
 refine ⟨_, rfl, ?_⟩
 have hbad := a0
 refine aC ?_
 refine wn a7 ?_
 refine aE fun i0 f6 => ?_
 refine sk fun i1 c5 => ?_
 refine dx ?_
 refine dr bT (cG (m := (dP ((dP l (ws.take k)).2) [p]).1) (n := (0 : Int)) (b := true) rfl rfl (bne_iff_ne.2 (hbad))) ?_
 simp only [pq]
 refine wn c5 ?_
 refine aJ ?_
 refine sk fun i2 c6 => ?_
 refine aC ?_
 refine wn c6 ?_
 refine aP ?_
 try simp only [xt]
 refine bR (cC rfl (gD rfl) (gD rfl)) ?_
 have hall : iT l ws = dP l (ws.take (k + 1)) := by
  unfold iT
  rw [if_neg (by omega)]
  have h := AC (us := ws.drop (k + 1)) (ws := ws.take (k + 1)) (f := l) (by rw [fK hp, mQ hz]; exact hbad)
  rwa [List.take_append_drop] at h
 rw [hall, fK hp, mQ hz, UQ hbad]
 exact ⟨_, _, rfl, a8.gr, _, rfl, Sl.nil _ _ _⟩
 refine eT ?_
 refine wn a6 ?_
 refine aE fun i3 f7 => ?_
 refine aF ?_
 refine cV ?_
 refine b1 _ _ ?_
 refine sk fun i4 c7 => ?_
 refine aC ?_
 refine wn c7 ?_
 refine aP ?_
 try simp only [xt]
 refine bR (cC rfl (gD rfl) (gD rfl)) ?_
 have hall : iT l ws = dP l (ws.take k) := by unfold iT; rw [if_neg (by omega), List.take_of_length_le (by omega)]
 rw [hall, hz]
 obtain ⟨i5, f8, f9, a1⟩ := St.freeze a4 (i := 0) rfl (Nat.le_refl _)
 have a1 : Tns _ v ((dP l (ws.take k)).2) := a1
 exact ⟨_, _, rfl, f8.gr, _, rfl, a1⟩
theorem oR (F : Fz) (w : World) (v u : Value) (l : aO) (k : By) (hs : Sat w F) (hv : Tns F v l) (hu : Bs F u k) (ok1 : ForestOk 60 l) {e : Int} (he : iH k.length = e) :
    Calls Tryz.prog 38 #[v, u] w (cU w (.int .i64 e)) := by
 subst he; exact GK F w v u l k hs hv hu ok1
theorem RU {P : Program} {w0 w : World} {F0 F : Fz} {L : List Blk} {M : List RowP} {ops : Array Oper} {Q : Exit → Act → World → Prop} {a : Act} {rest : List Oper} {o : Oper} {k : FuncId} {vs : Array Value} {l : List Pr} (S : St w0 F0 w F L M) (hw : Region.wanted o (yielded ops a.tmps) = true)
    (hr : (execOp a.eval o).run P w = .ok (.enter k vs) w) (hc : Calls P k vs w fun e w' => ∃ x, e = .returned x ∧ Below w.heap.size w w' ∧ Prs F x l)
    (h : ∀ x w', St w0 F0 w' F L M → Prs F x l → WL P ops Q rest (a.put o.dst x) w') : WL P ops Q (o :: rest) a w :=
  doC hw hr hc fun e w' ⟨x, he, hb, hp⟩ => ⟨x, he, h x w' (S.tells hb) hp⟩
theorem zC (F : Fz) (w : World) (v u z : Value) (l : aO) (n k : By) (hs : Sat w F) (hv : Tns F v l) (hn : Bs F u n) (hk : Bs F z k) (ok1 : ForestOk 60 l) (hnn : 1 ≤ n.length ∧ n.length ≤ 8) (hkk : 1 ≤ k.length ∧ k.length ≤ 16) :
    Calls Tryz.prog 29 #[v, u, z] w (dB w F (It (gQ l n k) 0)) := by
 have hn0 := kH hnn.1 hnn.2
 have hl8 := ok1.len
 obtain ⟨a, c, rfl, hc1, hc2⟩ := Sl.shape hv
 obtain ⟨a2, c2, rfl, _⟩ := hn.shape
 obtain ⟨a3, c3, rfl, _⟩ := hk.shape
 have S := St.start hs
 go_enter Tryz.func29, Tryz.ntmps29
 refine sk fun K1 hK1 => ?_
 refine sA S (kL _) fun n2 w3 S4 => ?_
 refine dy ?_
 refine wn hK1 ?_
 refine aE fun K5 hK5 => ?_
 refine sk fun K6 hK6 => ?_
 refine aC ?_
 refine aI (v := (iI 0)) S4 rfl (fn2 (RH _ _)) (oR _ _ _ _ l n (S4).sat hv hn ok1 hn0) (fun w7 S8 => ?_)
 refine dy ?_
 refine wn hK6 ?_
 refine sk fun K9 hK9 => ?_
 refine dx ?_
 refine dr bF (cG (b := false) rfl rfl (by decide)) ?_
 simp only [pq]
 refine wn hK9 ?_
 refine aF ?_
 refine aH ?_
 refine hK5 _ _ ?_
 refine sk fun b2 a1 => ?_
 iterate 2 refine dx ?_
 refine RU S8 rfl (cK (vs := #[(.slice a l.length c), (.slice a2 n.length c2)]) (iD rfl rfl) rfl (RJ _ _)) (tT _ _ _ _ l n (S8).sat hv hn ok1.rise (by omega)) ?_
 intro b3 b4 a5 a0
 obtain ⟨b5, b6, rfl, _⟩ := Sl.shape a0
 refine dx ?_
 simp only [pq]
 refine aR a5 rfl (fn2 (RI _ _)) (RS _ _ _ _ (bG l n) k (a5).sat a0 hk (TreeOk.mono (show TreeOk 60 (bG l n) from kF ok1 n) (by omega)) (hkk) (rfl)) ?_
 intro b7 b9 c0 a7 a8 a9
 obtain ⟨_, rfl, b0, b1, rfl, a4⟩ := a9
 have a4 : Bs _ (.slice b0 ((gH (bG l n) k).getD []).length b1) ((gH (bG l n) k).getD []) := a4
 iterate 2 refine de ?_
 refine sW 0 a7 (fT) fun c1 a6 => ?_
 simp only [pq]
 refine dy ?_
 refine wn a1 ?_
 refine aP ?_
 try simp only [xt]
 refine bR (dN rfl ⟨_, rfl, lR a6 0 Tryz.underlying72 (fT)⟩ (gD rfl)) ?_
 exact ⟨_, _, rfl, a6.gr, _, rfl, _, _, rfl, a4⟩
theorem OL (F : Fz) (w : World) (v u z y : Value) (l : aO) (n k j : By) (hs : Sat w F) (hv : Tns F v l) (hn : Bs F u n) (hk : Bs F z k) (hj : Bs F y j) (ok1 : ForestOk 60 l) (hnn : 1 ≤ n.length ∧ n.length ≤ 8) (hkk : 1 ≤ k.length ∧ k.length ≤ 16) (hjj : 1 ≤ j.length ∧ j.length ≤ 16) :
    Calls Tryz.prog 107 #[v, u, z, y] w (dB w F (PrsE (gR (bG l n) k j) 0)) := by
 have hn0 := kH hnn.1 hnn.2
 have hl8 := ok1.len
 obtain ⟨a, c, rfl, hc1, hc2⟩ := Sl.shape hv
 obtain ⟨a2, c2, rfl, _⟩ := hn.shape
 obtain ⟨a3, c3, rfl, _⟩ := hk.shape
 obtain ⟨a4, c4, rfl, _⟩ := hj.shape
 have S := St.start hs
 go_enter Tryz.func107, Tryz.ntmps107
 refine sk fun K1 hK1 => ?_
 iterate 2 refine dy ?_
 refine wn hK1 ?_
 refine aE fun K2 hK2 => ?_
 refine sk fun K3 hK3 => ?_
 refine aC ?_
 refine aI (v := (iI 0)) S rfl (fn2 (RH _ _)) (oR _ _ _ _ l n (S).sat hv hn ok1 hn0) (fun w4 S5 => ?_)
 refine dy ?_
 refine wn hK3 ?_
 refine sk fun K6 hK6 => ?_
 refine dx ?_
 refine dr bF (cG (b := false) rfl rfl (by decide)) ?_
 simp only [pq]
 refine wn hK6 ?_
 refine aF ?_
 refine aH ?_
 refine hK2 _ _ ?_
 refine sk fun K7 hK7 => ?_
 iterate 2 refine dx ?_
 refine RU S5 rfl (cK (vs := #[(.slice a l.length c), (.slice a2 n.length c2)]) (iD rfl rfl) rfl (RJ _ _)) (tT _ _ _ _ l n (S5).sat hv hn ok1.rise (by omega)) ?_
 intro x8 w9 a5 a0
 obtain ⟨b3, b4, rfl, _⟩ := Sl.shape a0
 refine aC ?_
 refine aR a5 rfl (fn3 (Fj _ _)) (LA _ _ _ _ _ (bG l n) k j (a5).sat a0 hk hj (TreeOk.mono (show TreeOk 60 (bG l n) from kF ok1 n) (by omega)) (hkk) (hjj)) ?_
 intro b5 b6 b7 a8 a9 b0
 obtain ⟨_, rfl, a1⟩ := b0
 obtain ⟨b1, a6, rfl, a7, b2⟩ := Sl.shape a1
 unfold maxLen at b2
 have a7 : (gR (bG l n) k j).length ≤ a6 := a7
 have a1 : Prs _ (.slice b1 (gR (bG l n) k j).length a6) (gR (bG l n) k j) := a1
 refine aC ?_
 refine wn hK7 ?_
 refine aP ?_
 try simp only [xt]
 refine bR (cC rfl (gD rfl) (gD rfl)) ?_
 exact ⟨_, _, rfl, a8.gr, _, rfl, a1⟩
theorem xR {F : Fz} {w : World} {v u : Value} {l g : aO} {ws : List Wr} {e : Int} (hs : Sat w F) (hv : Tns F v l) (hw : Wrs F u ws) (ok1 : ForestOk 60 l) (hb : ∀ r ∈ ws, WrOk r) (h : iT l ws = (e, g)) :
    Calls Tryz.prog 22 #[v, u] w (dB w F (Ai g e)) := by
 have := DS F w v u l ws hs hv hw ok1 fun r hr => by have h := hb r hr; have := h.name.2; have := h.key2; have := h.value; omega
 rwa [h] at this
theorem RV {l : aO} {r : Wr} (h : WrOk r) : iT l [r] = match eR l r with | some g => (0, g) | none => (11, []) := by
 unfold iT
 rw [if_neg (by simp), qZ (by simpa using h), DL]
 cases eR l r <;> rfl
theorem wB (F : Fz) (w : World) (v : Value) (l : aO) (hs : Sat w F) (hv : Tns F v l) (ok : ForestOk 60 l) :
    Calls Tryz.prog 32 #[v] w (cU w (.int .i64 0)) := by
 have := jX F w v l hs hv
 rwa [oQ.2 ok] at this
section
variable {α β : Type} {k k2 E E2 base base2 : Nat} {R : Fz → List Value → α → Prop} {R2 : Fz → List Value → β → Prop} {w0 W w w' : World} {F0 F F' : Fz} {L : List Blk} {M : List RowP} {v v2 : Value} {l : List α} {l2 : List β}
theorem Own.at_heap (h : Own k R E base w F v l) {g : Nat} (hg : v.ownBlock = some g) : ∃ cur : Array Value, w.heap[g]? = some (.cells cur E (0, 0)) := by
 obtain ⟨el, ⟨_, h2⟩, _⟩ := h.ex
 rcases h2 with ⟨rfl, _⟩ | ⟨b, cap, cur, rfl, _, h3, _⟩
 ·cases hg
 ·cases hg; exact ⟨cur, h3⟩
theorem WI (h1 : Own k R E base w F v l) (h2 : Own k2 R2 E2 base2 w F v2 l2) (hE : E ≠ E2) : ∀ g, v.ownBlock = some g → v2.ownBlock ≠ some g := by
 intro g hg hc
 obtain ⟨c1, e1⟩ := h1.at_heap hg
 obtain ⟨c2, e2⟩ := h2.at_heap hc
 rw [e1] at e2
 injection e2 with e2
 injection e2 with _ e2
 exact hE e2
def MadeO {α : Type} (W : World) (F : Fz) (k : Nat) (R : Fz → List Value → α → Prop) (E : Nat) (l : List α) (v : Value) (w : World) : Prop := ∃ F', Gr W F w F' ∧ Own k R E W.heap.size w F' v l
theorem MadeO.stable (hR : ∀ F F' x p, Le F F' → R F x p → R F' x p) (W : World) (F : Fz) (k E : Nat) (l : List α) : Hq (MadeO W F k R E l) :=
  fun v w w' ⟨F', g, h⟩ hb => ⟨F', g.trans (Gr.of_below g.sat hb), h.gr hR g.sat (Gr.of_below g.sat hb)⟩
theorem RW {P : Program} {f : FuncId} {args : Array Value} (hs : Sat W F) (hC : Below W.heap.size W w) (h : Calls P f args w (rV w F k R E l)) : Calls P f args w (qI (lC (MadeO W F k R E l) w)) :=
  h.mono fun e w' ⟨v, F', he, g, ho⟩ => ⟨v, he, ⟨F', (Gr.of_below hs hC).trans g, ho.rebase fun b hb => Nat.le_trans hC.size (ho.lt b hb).1⟩, g.below⟩
theorem Own.dropF (h : Own k R E base w F v l) {n : Nat} (hx : ∀ cs p, R F cs p → R (Proofs.YtilgpdpooildcaaGreatDoor.dropF F n) cs p) : Own k R E base w (Proofs.YtilgpdpooildcaaGreatDoor.dropF F n) v l := by
 obtain ⟨el, h1, h2, h3⟩ := h.ex
 refine ⟨⟨el, h1, h2.imp hx, h3⟩, fun g hg => ?_⟩
 unfold Proofs.YtilgpdpooildcaaGreatDoor.dropF
 split
 rfl
 exact h.out g hg
theorem St.addBlkRow {hR : ∀ F F' x p, Le F F' → R F x p → R F' x p} {n : Nat} {cs : List Value} {T : TypeId} (S : St w0 F0 W F L M) (g : Gr W F w F') (ho : Own k R E W.heap.size w F' v l) (hn : W.heap.size ≤ n) (hb : w.heap[n]? = some (.cells cs.toArray T (0, 0))) (hE : E ≠ T) (hx : ∀ cs p, R F' cs p → R (Proofs.YtilgpdpooildcaaGreatDoor.dropF F' n) cs p) :
    St w0 F0 w (Proofs.YtilgpdpooildcaaGreatDoor.dropF F' n) (⟨n, cs, T⟩ :: L) (bZ k R hR E w0.heap.size v l :: M) := by
 have g' := g.dropF S.sat hn
 have ho' := ho.dropF (n := n) hx
 have S' := S.addRow (hR := hR) g' ho'
 refine ⟨S'.gr, fun x hx => ?_, S'.row, List.pairwise_cons.2 ⟨fun y hy => ?_, S'.bb⟩, fun r hr x hx => ?_, S'.rr⟩
 rcases List.mem_cons.1 hx with rfl | hx
 exact ⟨hb, mP _ _, Nat.le_trans S.gr.below.size hn⟩
 exact S'.blk x hx
 have := S.blk_lt hy
 simp only
 omega
 rcases List.mem_cons.1 hx with rfl | hx
 rcases List.mem_cons.1 hr with rfl | hr
 intro e
 obtain ⟨c, e1⟩ := ho'.at_heap e
 rw [hb] at e1
 injection e1 with e1
 injection e1 with _ e1
 exact hE e1.symm
 intro e
 have := ((S.row r hr).2 _ e).1
 simp at this
 omega
 exact S'.rb r hr x hx
theorem St.addRow2 {hR : ∀ F F' x p, Le F F' → R F x p → R F' x p} {hR2 : ∀ F F' x p, Le F F' → R2 F x p → R2 F' x p} (S : St w0 F0 w F L M) (g : Gr w F w' F') (h1 : Own k R E w.heap.size w' F' v l) (h2 : Own k2 R2 E2 w.heap.size w' F' v2 l2) (hE : E ≠ E2) :
    St w0 F0 w' F' L (bZ k R hR E w0.heap.size v l :: bZ k2 R2 hR2 E2 w0.heap.size v2 l2 :: M) := by
 have S' := S.addRow (hR := hR2) g h2
 have hlt := h1.lt
 have ho' : Own k R E w0.heap.size w' F' v l := h1.rebase fun b hb => Nat.le_trans S.gr.below.size (hlt b hb).1
 refine ⟨S'.gr, S'.blk, fun r hr => ?_, S'.bb, fun r hr x hx => ?_, List.pairwise_cons.2 ⟨fun s hs b hb hc => ?_, S'.rr⟩⟩
 rcases List.mem_cons.1 hr with rfl | hr
 exact ⟨ho', fun b hb => ⟨(hlt b hb).2, h1.out b hb, Nat.le_trans S.gr.below.size (hlt b hb).1⟩⟩
 exact S'.row r hr
 rcases List.mem_cons.1 hr with rfl | hr
 intro e
 have h1 := (hlt _ e).1
 have h2 := S.blk_lt hx
 omega
 exact S'.rb r hr x hx
 rcases List.mem_cons.1 hs with rfl | hs
 exact WI h1 h2 hE b hb hc
 have h1 := (hlt b hb).1
 have h2 := ((S.row s hs).2 b hc).1
 omega
end
section
variable {w : World} {F : Fz} {n : Nat} {cs : List Value} {T : TypeId}
theorem WrC.dropF (hs : Sat w F) (hb : w.heap[n]? = some (.cells cs.toArray T (0, 0))) (hc : ∀ u ∈ cs, ∀ x, u ≠ bv x) (c : List Value) (p : Wr) (h : WrC F c p) : WrC (Proofs.YtilgpdpooildcaaGreatDoor.dropF F n) c p := by
 obtain ⟨a0, a1, a2, a3, rfl, h0, h1, h2, h3⟩ := h
 exact ⟨a0, a1, a2, a3, rfl, h0.dropF hs hb hc, h1.dropF hs hb hc, h2, h3.dropF hs hb hc⟩
theorem RdC.dropF (hs : Sat w F) (hb : w.heap[n]? = some (.cells cs.toArray T (0, 0))) (hc : ∀ u ∈ cs, ∀ x, u ≠ bv x) (c : List Value) (p : Rd) (h : RdC F c p) : RdC (Proofs.YtilgpdpooildcaaGreatDoor.dropF F n) c p := by
 obtain ⟨a0, a1, a2, a3, rfl, h0, h1, h2, h3⟩ := h
 exact ⟨a0, a1, a2, a3, rfl, h0.dropF hs hb hc, h1.dropF hs hb hc, h2, h3.dropF hs hb hc⟩
end
theorem FactsAt.getR {md : Region.Mode} {ops : Array Oper} {W : World} {F : Fz} {L : List (Nat × Mark)} {Vs : eX} {w : World} {j : Nat} (h : FactsAt md ops (gI W F L) j Vs w) (i : Nat) {v : Value} {R : Value → World → Prop} (ha : mY md ops ops.size j i = true) (hv : Vs i = some v) (hL : gI W F L i = .rel R) : R v w := by
 have := h i v ha hv
 rw [hL] at this
 exact this
theorem nT {P : Program} {f : FuncId} {vs : Array Value} {α : Type} {k E : Nat} {R : Fz → List Value → α → Prop} (hR : ∀ F F' x p, Le F F' → R F x p → R F' x p) {w : World} {F : Fz} {l : List α} (h : Calls P f vs w (rV w F k R E l)) : Calls P f vs w (dB w F fun F' u => Sl k R F' u l) :=
  h.mono fun e w' ⟨v, F', he, g, ho⟩ => by
    obtain ⟨F2, g2, _, h2⟩ := ho.freeze hR g (Nat.le_refl _)
    exact ⟨v, F2, he, g2, h2⟩
def UR (w : World) (F : Fz) (Er Ew : Nat) (t : Tx) (e : Ending) (w' : World) : Prop := ∃ v1 v2 F', e = .returned (.agg #[.int .i64 t.start, v1, v2]) ∧ Gr w F w' F' ∧ Own 4 RdC Er w.heap.size w' F' v1 t.reads ∧ Own 4 WrC Ew w.heap.size w' F' v2 t.writes
theorem IJ {P : Program} {ops : Array Oper} {Q : Exit → Act → World → Prop} {a : Act} {rest : List Oper} {o : Oper} {kf : FuncId} {vs : Array Value} {w0 w : World} {F0 F : Fz} {L : List Blk} {M : List RowP} {Er Ew : Nat} {t : Tx} (S : St w0 F0 w F L M) (hw : Region.wanted o (yielded ops a.tmps) = true)
    (hr : (execOp a.eval o).run P w = .ok (.enter kf vs) w) (hc : Calls P kf vs w (UR w F Er Ew t)) (hE : Er ≠ Ew)
    (h : ∀ a1 c1 a2 c2 w' F', St w0 F0 w' F' L (bZ 4 RdC RdC.mono Er w0.heap.size (.slice a1 t.reads.length c1) t.reads :: bZ 4 WrC WrC.mono Ew w0.heap.size (.slice a2 t.writes.length c2) t.writes :: M) → Le F F' → c1 ≤ maxLen → c2 ≤ maxLen → WL P ops Q rest (a.put o.dst (.agg #[.int .i64 t.start, .slice a1 t.reads.length c1, .slice a2 t.writes.length c2])) w') : WL P ops Q (o :: rest) a w :=
  doC hw hr hc fun e w' ⟨v1, v2, F', he, g, h1, h2⟩ => by
    obtain ⟨a1, c1, rfl, _, q1⟩ := h1.shape
    obtain ⟨a2, c2, rfl, _, q2⟩ := h2.shape
    exact ⟨_, he, h a1 c1 a2 c2 w' F' (S.addRow2 g h1 h2 hE) (g.le S.sat) q1 q2⟩
section
variable {P : Program} {ops : Array Oper} {md : Region.Mode} {C : World → Prop} {Sp : Nat → OpSpec}
def LB (P : Program) (md : Region.Mode) (ops : Array Oper) (C : World → Prop) (Sp : Nat → OpSpec) (Lq : Act → eX → Prop) : List (Nat × Oper) → Act → eX → Prop
  | [], a, Vs => Lq a Vs
  | (k, o) :: l, a, Vs => if Region.wanted o (yielded ops a.tmps) = true then ∃ S, Ob P md ops C Sp k o a Vs S ∧ ∀ v, S v → LB P md ops C Sp Lq l (a.put o.dst v) (oD (Sp k) Vs k v) else LB P md ops C Sp Lq l (a.put o.dst undef) Vs
def DT (md : Region.Mode) (ops : Array Oper) : List Nat → Array Bool → Bool
  | [], listed => (Region.ready md ops listed).isEmpty
  | k :: ks, listed => decide (Region.ready md ops listed = [k]) && DT md ops ks (listed.setIfInBounds k true)
theorem RX {T : List Nat} {listed : Array Bool} (h : DT md ops T listed = true) : ∀ j ∈ Region.ready md ops listed, j ∈ T := by
 cases T with
 | nil => intro j hj; simp only [DT, List.isEmpty_iff] at h; rw [h] at hj; cases hj
 | cons t T =>
  intro j hj
  simp only [DT, Bool.and_eq_true, decide_eq_true_eq] at h
  rw [h.1] at hj
  have : j = t := by simpa using hj
  subst this
  exact List.mem_cons_self ..
theorem qC {Q' : Exit → Act → World → Prop} : ∀ (l : List (Nat × Oper)) (listed : Array Bool) (a : Act) (w : World), (∀ p ∈ l, ops[p.1]? = some p.2) →
    DT md ops (l.map (·.1)) listed = true → wpList P ops Q' (l.map (·.2)) a w → wpAny P md ops Q' l.length listed a w
  | [], _, _, _, _, hB, h => ⟨by simpa [DT] using hB, h⟩
  | (k, o) :: l, listed, a, w, hl, hB, h => by
    have h0 : ops[k]? = some o := hl (k, o) (List.mem_cons_self ..)
    simp only [List.map_cons, DT, Bool.and_eq_true, decide_eq_true_eq] at hB
    refine ⟨fun h1 => (by rw [hB.1] at h1; cases h1), fun i hi => ?_⟩
    rw [hB.1] at hi
    have hik : i = k := by simpa using hi
    subst hik
    have hw : wpOp P ops Q' i (wpList P ops Q' (l.map (·.2))) a w := by unfold wpOp; simp only [h0]; exact h
    exact wpOp_mono (fun a' w' h' => qC l _ a' w' (fun p hp => hl p (List.mem_cons_of_mem _ hp)) hB.2 h') hw
end
def jH (l : List Oper) : List Nat → List (Nat × Oper)
  | [] => []
  | k :: ks => match l[k]? with
    | some o => (k, o) :: jH l ks
    | none => jH l ks
theorem tX {l : List Oper} : ∀ {ks : List Nat} {p : Nat × Oper}, p ∈ jH l ks → l.toArray[p.1]? = some p.2
  | [], p, h => by cases h
  | k :: ks, p, h => by
    unfold jH at h
    split at h
    · rename_i o ho
      rcases List.mem_cons.1 h with rfl | h
      · simpa using ho
      · exact tX h
    · exact tX h
structure GP (P : Program) (md : Region.Mode) (ops : Array Oper) (C : World → Prop) (Sp : Nat → OpSpec) (Lq : Act → eX → Prop) (l : List (Nat × Oper)) (a : Act) (Vs : eX) : Prop where
  out : LB P md ops C Sp Lq l a Vs
section
variable {P : Program} {ops : Array Oper} {md : Region.Mode} {C : World → Prop} {Sp : Nat → OpSpec} {Lq : Act → eX → Prop} {o : Oper} {l : List (Nat × Oper)} {k : Nat} {a : Act} {Vs : eX}
theorem zD (h : Lq a Vs) : GP P md ops C Sp Lq [] a Vs := ⟨h⟩
theorem bQ (hw : Region.wanted o (yielded ops a.tmps) = true) (hs : Sp k = .pure) (v : Value) (h : ∀ w, C w → PureAt P o a w v) (hn : GP P md ops C Sp Lq l (a.put o.dst v) Vs) : GP P md ops C Sp Lq ((k, o) :: l) a Vs := by
 refine ⟨?_⟩
 unfold LB
 rw [if_pos hw]
 refine ⟨fun u => u = v, by unfold Ob; rw [hs]; exact ⟨v, rfl, h⟩, fun u hu => ?_⟩
 subst hu
 rw [hs]
 exact hn.out
theorem Aj (hw : Region.wanted o (yielded ops a.tmps) = true) {v : Value} (hs : Sp k = .const v) (h : ∀ w, C w → FactsAt md ops Sp k Vs w → kZ P o a w (vT v w)) (hn : GP P md ops C Sp Lq l (a.put o.dst v) Vs) : GP P md ops C Sp Lq ((k, o) :: l) a Vs := by
 refine ⟨?_⟩
 unfold LB
 rw [if_pos hw]
 refine ⟨fun u => u = v, by unfold Ob; rw [hs]; exact ⟨rfl, h⟩, fun u hu => ?_⟩
 subst hu
 rw [hs]
 exact hn.out
theorem kS (hw : Region.wanted o (yielded ops a.tmps) = true) {R : Value → World → Prop} (hs : Sp k = .rel R) (h : ∀ w, C w → FactsAt md ops Sp k Vs w → kZ P o a w (lC R w)) (hn : ∀ v, GP P md ops C Sp Lq l (a.put o.dst v) (upd Vs k v)) : GP P md ops C Sp Lq ((k, o) :: l) a Vs := by
 refine ⟨?_⟩
 unfold LB
 rw [if_pos hw]
 refine ⟨fun _ => True, by unfold Ob; rw [hs]; exact ⟨rfl, h⟩, fun u _ => ?_⟩
 rw [hs]
 exact (hn u).out
end
structure LT (P : Program) (ops : Array Oper) (Q : Exit → Act → World → Prop) (os : Oper) (rest : List Oper) (a : Act) (w : World) : Prop where
  out : ∃ w', os.guard = none ∧ os.dst = none ∧ (execOp a.eval os).run P w = .ok .skip w' ∧ wpList P ops Q rest a w'
section
variable {P : Program} {ops : Array Oper} {md : Region.Mode} {C : World → Prop} {Sp : Nat → OpSpec}
def zE (P : Program) (md : Region.Mode) (ops : Array Oper) (C : World → Prop) (Sp : Nat → OpSpec) (s : Nat) (L E : Array Bool → Act → eX → Prop) : Nat → Array Bool → Act → eX → Prop
  | 0, listed, a, Vs => L listed a Vs
  | f + 1, listed, a, Vs => Region.ready md ops listed ≠ [] ∧ ∀ i ∈ Region.ready md ops listed, (i ≠ s → gOp P md ops C Sp i (zE P md ops C Sp s L E f (listed.setIfInBounds i true)) a Vs) ∧ (i = s → f = 0 ∧ E listed a Vs)
theorem LC (hC : ∃ w, C w) {i s : Nat} {oi : Oper} {T : List Nat} {L E : Array Bool → Act → eX → Prop} (hi : ops[i]? = some oi) (hsel : ∀ (j : Nat) (o : Oper) cs b, ops[j]? = some o → o.op ≠ .select cs b)
    (hdone : ∀ listed a Vs, L listed a Vs → ∀ j ∈ Region.ready md ops listed, j ∈ T) (hT : ∀ t ∈ T, mY md ops ops.size t i = true) (hsT : s ∈ T) (his : i ≠ s) :
    ∀ (f : Nat) (listed : Array Bool) (a : Act) (Vs : eX), HeadInv md ops ops.size listed →
      (∀ j oj, ops[j]? = some oj → j ≠ i → listed.getD j true = false → (∀ e ∈ oj.after, Region.binds md e = true → e.on ≠ i) → oi.apart ops oj = true) →
      i ∈ Region.ready md ops listed →
      gOp P md ops C Sp i (zE P md ops C Sp s L E f (listed.setIfInBounds i true)) a Vs → zE P md ops C Sp s L E (f + 1) listed a Vs := by
 intro f
 induction f with
 | zero =>
  intro listed a Vs inv _ hr H
  have hun := (mem_ready.1 hr).1
  refine ⟨fun h => (by rw [h] at hr; cases hr), fun j hj => ?_⟩
  by_cases hji : j = i
  subst hji; exact ⟨fun _ => H, fun e => absurd e his⟩
  obtain ⟨a', Vs', hL⟩ := NF H
  have h1 := hdone _ _ _ hL j (ready_mono hj hji)
  have h2 := nX inv hj _ _ (hT j h1)
  rw [getD_both hun] at h2
  cases h2
 | succ f ih =>
  intro listed a Vs inv hfree hr H
  have hun := (mem_ready.1 hr).1
  refine ⟨fun h => (by rw [h] at hr; cases hr), fun j hj => ?_⟩
  obtain ⟨hjun, oj, hoj, hall⟩ := mem_ready.1 hj
  have hjn : j < ops.size := (Array.getElem?_eq_some_iff.1 hoj).1
  by_cases hji : j = i
  subst hji; exact ⟨fun _ => H, fun e => absurd e his⟩
  by_cases hjs : j = s
  subst hjs
  have h2 := nX inv hj _ _ (hT j hsT)
  rw [getD_both hun] at h2
  cases h2
  refine ⟨fun _ => ?_, fun e => absurd e hjs⟩
  have hnot : ∀ e ∈ oj.after, Region.binds md e = true → e.on ≠ i := fun e he hb heq => by
   have h1 := hall e he hb
   rw [heq, getD_both hun] at h1
   cases h1
  have a1 : mY md ops ops.size j i = false := by
   cases hx : mY md ops ops.size j i with
   | false => rfl
   | true => have := nX inv hj _ _ hx; rw [getD_both hun] at this; cases this
  have a2 : mY md ops ops.size i j = false := by
   cases hx : mY md ops ops.size i j with
   | false => rfl
   | true => have := nX inv hr _ _ hx; rw [getD_both hjun] at this; cases this
  have H1 : gOp P md ops C Sp i (gOp P md ops C Sp j (zE P md ops C Sp s L E f ((listed.setIfInBounds i true).setIfInBounds j true))) a Vs :=
   qJ (fun a' Vs' h => (h.2 j (ready_mono hj hji)).1 hjs) H
  have H2 := NH hC hi hoj (Ne.symm hji) (hfree j oj hoj hji hjun hnot) (fun cs b => hsel i oi cs b hi) (fun cs b => hsel j oj cs b hoj) a1 a2 H1
  have hfree' : ∀ k ok, ops[k]? = some ok → k ≠ i → (listed.setIfInBounds j true).getD k true = false →
    (∀ e ∈ ok.after, Region.binds md e = true → e.on ≠ i) → oi.apart ops ok = true := fun k ok hk hki hun' hno => by
   refine hfree k ok hk hki ?_ hno
   by_cases hjk : j = k
   subst hjk; exact hjun
   rw [getD_set_ne true hjk] at hun'; exact hun'
  refine qJ (fun a' Vs' h3 => ih (listed.setIfInBounds j true) a' Vs' (inv.set hj hjn) hfree' (ready_mono hr (Ne.symm hji)) ?_) H2
  rw [Array.setIfInBounds_comm _ _ hji]
  exact h3
def OM (P : Program) (md : Region.Mode) (ops : Array Oper) (Q : Exit → Act → World → Prop) (C : World → Prop) (Sp : Nat → OpSpec) (p : Nat) (op os : Oper) (tail : List Oper) (a : Act) (Vs : eX) : Prop :=
  op.guard = none ∧ ∃ v, Sp p = .const v ∧ (∀ w, C w → FactsAt md ops Sp p Vs w → ∀ w1, PureAt P op a w1 v) ∧ ∀ w, C w → Facts Sp Vs w → LT P ops Q os tail (a.put op.dst v) w
def UT (md : Region.Mode) (ops : Array Oper) (p s : Nat) (T : List Nat) (listed : Array Bool) : Bool :=
  ((Region.ready md ops listed).all fun j => j == p || j == s) && (Region.ready md ops listed).contains p && Region.free md ops listed p && DT md ops (s :: T) (listed.setIfInBounds p true) && DT md ops (p :: T) (listed.setIfInBounds s true)
def ON (md : Region.Mode) (ops : Array Oper) (p s : Nat) (T : List Nat) : List Nat → Array Bool → Bool
  | [], listed => UT md ops p s T listed
  | k :: ks, listed => (Region.ready md ops listed).contains k && Region.free md ops listed k && ON md ops p s T ks (listed.setIfInBounds k true)
theorem LD {o : Oper} {a : Act} {w : World} {v : Value} (h : PureAt P o a w v) : kZ P o a w (vT v w) := by
 unfold kZ PureAt at *
 generalize (execOp a.eval o).run P w = r at *
 cases r with
 | ok n w' =>
  cases n <;> simp only [zT] at h <;> simp only [HH]
  ·obtain ⟨rfl, rfl⟩ := h; exact ⟨rfl, Below.refl _ _⟩
  ·obtain ⟨rfl, rfl⟩ := h; exact ⟨rfl, Below.refl _ _⟩
 | halt x w' => simp only [zT] at h
theorem pO {o : Oper} {t : Array Value} (h : o.guard = none) : Region.wanted o (yielded ops t) = true := by unfold Region.wanted; rw [h]
theorem AD (hC : ∃ w, C w) {p s : Nat} {T : List Nat} {op os : Oper} {tail : List Oper} {Q : Exit → Act → World → Prop} (hp : ops[p]? = some op) (hps : p ≠ s) (hsel : Region.noSelect ops = true) :
    ∀ (l : List (Nat × Oper)) (listed : Array Bool) (a : Act) (Vs : eX), (∀ q ∈ l, ops[q.1]? = some q.2) → (∀ t ∈ s :: T, ∀ q ∈ l, mY md ops ops.size t q.1 = true) → (∀ q ∈ l, q.1 ≠ s) → HeadInv md ops ops.size listed →
    ON md ops p s T (l.map (·.1)) listed = true → LB P md ops C Sp (OM P md ops Q C Sp p op os tail) l a Vs →
    zE P md ops C Sp s (fun listed' a' Vs' => DT md ops (s :: T) listed' = true ∧ ∀ w, C w → Facts Sp Vs' w → LT P ops Q os tail a' w) (fun listed' a' Vs' => UT md ops p s T listed' = true ∧ OM P md ops Q C Sp p op os tail a' Vs') (l.length + 1) listed a Vs
  | [], listed, a, Vs, _, _, _, _, hB, h => by
    have hB0 := hB
    simp only [List.map_nil, ON, UT, Bool.and_eq_true] at hB
    obtain ⟨⟨⟨⟨h1, h2⟩, h3⟩, h4⟩, h5⟩ := hB
    have hr : p ∈ Region.ready md ops listed := by simpa using h2
    refine ⟨fun e => (by rw [e] at hr; cases hr), fun j hj => ⟨fun hjs => ?_, fun e => ⟨rfl, hB0, h⟩⟩⟩
    have hj2 := List.all_eq_true.1 h1 j hj
    simp only [Bool.or_eq_true, beq_iff_eq] at hj2
    have hjp : j = p := hj2.resolve_right hjs
    subst hjp
    obtain ⟨hg, v, hs, hpu, hn⟩ := h
    unfold gOp
    simp only [hp]
    rw [if_pos (pO hg)]
    refine ⟨fun u => u = v, ?_, fun u hu => ?_⟩
    · unfold Ob; rw [hs]; exact ⟨rfl, fun w hc hF => LD (hpu w hc hF w)⟩
    · subst hu
      rw [hs]
      exact ⟨h4, hn⟩
  | (k, o) :: l, listed, a, Vs, hl, hT, hns, inv, hB, h => by
    have h0 : ops[k]? = some o := hl (k, o) (List.mem_cons_self ..)
    have hkn : k < ops.size := (Array.getElem?_eq_some_iff.1 h0).1
    simp only [List.map_cons, ON, Bool.and_eq_true] at hB
    obtain ⟨⟨hr, hf⟩, hB'⟩ := hB
    have hr' : k ∈ Region.ready md ops listed := by simpa using hr
    have hg : gOp P md ops C Sp k (LB P md ops C Sp (OM P md ops Q C Sp p op os tail) l) a Vs := by unfold gOp; simp only [h0]; exact h
    exact LC hC h0 (Region.noSelect_spec hsel) (fun listed' a' Vs' hL => RX hL.1) (fun t ht => hT t ht (k, o) (List.mem_cons_self ..)) (List.mem_cons_self ..) (hns (k, o) (List.mem_cons_self ..)) (l.length + 1) listed a Vs inv (Region.free_spec h0 hf) hr'
      (qJ (fun a' Vs' h' => AD hC hp hps hsel l _ a' Vs' (fun p hp => hl p (List.mem_cons_of_mem _ hp)) (fun t ht p hp => hT t ht p (List.mem_cons_of_mem _ hp)) (fun q hq => hns q (List.mem_cons_of_mem _ hq)) (inv.set hr' hkn) hB' h') hg)
theorem mA (hst : ∀ i v w w', lB (Sp i) v w → Below w.heap.size w w' → lB (Sp i) v w') (hCE : ∀ w w', C w → Below w.heap.size w w' → C w') {s g : Nat} {L E : Array Bool → Act → eX → Prop} {Q' : Exit → Act → World → Prop}
    (hL : ∀ listed a Vs w, C w → Facts Sp Vs w → L listed a Vs → wpAny P md ops Q' g listed a w)
    (hE : ∀ listed a Vs w, C w → Facts Sp Vs w → s ∈ Region.ready md ops listed → E listed a Vs → wpOp P ops Q' s (wpAny P md ops Q' g (listed.setIfInBounds s true)) a w) :
    ∀ (f : Nat) (listed : Array Bool) (a : Act) (Vs : eX) (w : World), C w → Facts Sp Vs w → zE P md ops C Sp s L E f listed a Vs → wpAny P md ops Q' (f + g) listed a w
  | 0, listed, a, Vs, w, hc, hF, h => by rw [Nat.zero_add]; exact hL _ _ _ _ hc hF h
  | f + 1, listed, a, Vs, w, hc, hF, h => by
    rw [show f + 1 + g = (f + g) + 1 by omega]
    refine ⟨fun h0 => absurd h0 h.1, fun i hi => ?_⟩
    by_cases his : i = s
    · subst his
      obtain ⟨hf0, he⟩ := (h.2 i hi).2 rfl
      subst hf0
      rw [Nat.zero_add]
      exact hE listed a Vs w hc hF hi he
    have hg := (h.2 i hi).1 his
    unfold gOp at hg
    unfold wpOp
    split
    · rename_i e
      simp only [e] at hg
      exact mA hst hCE hL hE f _ a Vs w hc hF hg
    · rename_i o e
      simp only [e] at hg
      split
      · rename_i hw
        rw [if_pos hw] at hg
        obtain ⟨S, hS, hall⟩ := hg
        left
        unfold Ob at hS
        split at hS
        · rename_i es
          obtain ⟨v, rfl, hp⟩ := hS
          have hn := hall v rfl
          simp only [es, oD] at hn
          exact Oper.wp_of_pure (hp w hc) (mA hst hCE hL hE f _ _ Vs w hc hF hn)
        · rename_i v es
          obtain ⟨rfl, hp⟩ := hS
          have hn := hall v rfl
          simp only [es, oD] at hn
          refine Oper.wp_of_does (hp w hc fun i' v' _ hv => hF i' v' hv) fun u w' ⟨hu, hb⟩ => ?_
          subst hu
          exact mA hst hCE hL hE f _ _ Vs w' (hCE w w' hc hb) (fun i' v' hv => hst i' v' w w' (hF i' v' hv) hb) hn
        · rename_i R es
          obtain ⟨rfl, hp⟩ := hS
          refine Oper.wp_of_does (hp w hc fun i' v' _ hv => hF i' v' hv) fun u w' ⟨hu, hb⟩ => ?_
          have hn := hall u trivial
          refine mA hst hCE hL hE f _ _ _ w' (hCE w w' hc hb) (fun i' v' hv => ?_) hn
          simp only [es, oD] at hv
          unfold upd at hv
          split at hv
          · rename_i e'
            subst e'
            cases hv
            simp only [es, lB]
            exact hu
          · exact hst i' v' w w' (hF i' v' hv) hb
      · rename_i hw
        rw [if_neg hw] at hg
        exact mA hst hCE hL hE f _ _ Vs w hc hF hg
theorem LE {Q : Exit → Act → World → Prop} {os : Oper} {tail : List Oper} {a : Act} {w : World} (h : LT P ops Q os tail a w) : wpList P ops Q (os :: tail) a w := by
 obtain ⟨w', hg, hd, hr, hk⟩ := h.out
 unfold wpList
 rw [if_pos (pO hg)]
 left
 refine Oper.wp_of_does (Φ := fun u w1 => u = undef ∧ w1 = w') (by unfold kZ; rw [hr]; exact ⟨rfl, rfl⟩) fun u w1 ⟨hu, hw⟩ => ?_
 subst hu; subst hw
 rw [hd]
 exact hk
end
def Ak (md : Region.Mode) (ops : Array Oper) (hd : List Nat) (p s : Nat) (tl : List Nat) : Bool :=
  Region.noSelect ops && decide (hd.length + 2 + tl.length = ops.size) && ON md ops p s tl hd (Array.replicate ops.size false) && ((s :: tl).all fun t => hd.all fun i => mY md ops ops.size t i) && (hd.all fun i => i != s) && (p != s)
theorem DU {P : Program} {id : Nat} {Q : Exit → Act → World → Prop} {a : Act} {w : World} {l : List Oper} (hd : List Nat) (p s : Nat) (tl : List Nat) (op os : Oper) (Sp : Nat → OpSpec) (hm : P.follows .mixedOrders = true) (hB : Ak .any l.toArray hd p s tl = true)
    (e1 : (jH l hd).map (·.1) = hd) (e2 : (jH l tl).map (·.1) = tl) (e3 : l[p]? = some op) (e4 : l[s]? = some os)
    (hst : ∀ i v w w', lB (Sp i) v w → Below w.heap.size w w' → lB (Sp i) v w')
    (h : LB P .any l.toArray (fun w' => Below w.heap.size w w') Sp (OM P .any l.toArray Q (fun w' => Below w.heap.size w w') Sp p op os ((jH l tl).map (·.2))) (jH l hd) a (fun _ => none)) : (Code.region id l.toArray true).wp P Q a w := by
 simp only [Ak, Bool.and_eq_true, decide_eq_true_eq] at hB
 obtain ⟨⟨⟨⟨⟨hsel, hn⟩, hlex⟩, hanc⟩, hns⟩, hps⟩ := hB
 have hps : p ≠ s := by simpa using hps
 have hp : l.toArray[p]? = some op := by simpa using e3
 have hs : l.toArray[s]? = some os := by simpa using e4
 have inv0 : HeadInv .any l.toArray l.toArray.size (Array.replicate l.toArray.size false) :=
  ⟨by simp, fun j oj _ hl => (by rw [getD_replicate_false] at hl; cases hl), fun t h1 h2 => by omega⟩
 have mem : ∀ q ∈ jH l hd, q.1 ∈ hd := fun q hq => by rw [← e1]; exact List.mem_map.2 ⟨q, hq, rfl⟩
 have H := AD (md := .any) (T := tl) (Q := Q) ⟨w, Below.refl _ _⟩ hp hps hsel (jH l hd) _ a _ (fun p hp => tX hp) (fun t ht p hp => by
  have h1 := List.all_eq_true.1 hanc t ht
  exact List.all_eq_true.1 h1 p.1 (mem p hp)) (fun q hq => by have := List.all_eq_true.1 hns q.1 (mem q hq); simpa using this) inv0 (by rw [e1]; exact hlex) h
 refine wp_region_any hm ?_
 have hlh : (jH l hd).length = hd.length := by have := congrArg List.length e1; simpa using this
 have hlt : (jH l tl).length = tl.length := by have := congrArg List.length e2; simpa using this
 have := mA (Q' := Q) (g := (jH l tl).length + 1) hst (fun w1 w2 h1 h2 => h1.trans (h2.mono h1.size)) (fun listed a' Vs w' hC hF hL => by
   have := qC (md := .any) (Q' := Q) ((s, os) :: jH l tl) listed a' w' (fun p hp => by rcases List.mem_cons.1 hp with rfl | hp; exact hs; exact tX hp) (by rw [List.map_cons, e2]; exact hL.1) (LE (hL.2 w' hC hF))
   simpa using this) (fun listed a' Vs w' hC hF hsr hE => by
   obtain ⟨hB, hg, v, hsp, hpu, hn'⟩ := hE
   simp only [UT, Bool.and_eq_true] at hB
   obtain ⟨⟨⟨⟨h1, h2⟩, h3⟩, h4⟩, h5⟩ := hB
   have hrp : p ∈ Region.ready .any l.toArray listed := by simpa using h2
   have hunp := (mem_ready.1 hrp).1
   obtain ⟨hsun, os', hos', hall⟩ := mem_ready.1 hsr
   have hoe : os' = os := Option.some.inj (hos'.symm.trans hs)
   subst hoe
   have hap := Region.free_spec hp h3 s os' hos' (Ne.symm hps) hsun (fun e he hb heq => by
    have h1 := hall e he hb
    rw [heq, getD_both hunp] at h1
    cases h1)
   obtain ⟨w1, q1, q2, q3, q4⟩ := (hn' w' hC hF).out
   rw [execOp_put os' (fun cs b => Region.noSelect_spec hsel s os' cs b hos') a' op.dst v (Oper.apart_spec hap).1] at q3
   unfold wpOp
   simp only [hos']
   rw [if_pos (pO q1)]
   left
   refine Oper.wp_of_does (Φ := fun u w2 => u = undef ∧ w2 = w1) (by unfold kZ; rw [q3]; exact ⟨rfl, rfl⟩) fun u w2 ⟨hu, hw⟩ => ?_
   subst hu; subst hw
   rw [q2]
   have h5' := h5
   simp only [DT, Bool.and_eq_true, decide_eq_true_eq] at h5'
   refine ⟨fun e => (by rw [h5'.1] at e; cases e), fun i hi => ?_⟩
   rw [h5'.1] at hi
   have hip : i = p := by simpa using hi
   subst hip
   unfold wpOp
   simp only [hp]
   rw [if_pos (pO hg)]
   left
   exact Oper.wp_of_pure (hpu w' hC (fun i' v' _ hv => hF i' v' hv) w2) (qC (md := .any) (Q' := Q) (jH l tl) _ _ _ (fun p hp => tX hp) (by rw [e2]; exact h5'.2) q4)) _ _ _ _ ({ w with drawn := w.drawn + 1 } : World) (Below.refl w.heap.size w).drew (fun i v h => by cases h) H
 rw [hlh, hlt, show hd.length + 1 + (tl.length + 1) = hd.length + 2 + tl.length by omega, hn] at this
 exact this
section
variable {P : Program} {ops : Array Oper} {md : Region.Mode} {C : World → Prop} {Sp : Nat → OpSpec}
def Hl (P : Program) (md : Region.Mode) (ops : Array Oper) (Q : Exit → Act → World → Prop) (C : World → Prop) (Sp : Nat → OpSpec) (p : Nat) (op os : Oper) (tail : List Oper) (a : Act) (Vs : eX) : Prop := OM P md ops Q C Sp p op os tail a Vs
theorem IK {p : Nat} {op os : Oper} {tail : List Oper} {Q : Exit → Act → World → Prop} {a : Act} {Vs : eX} (hg : op.guard = none) {v : Value} (hs : Sp p = .const v) (h : ∀ w, C w → FactsAt md ops Sp p Vs w → ∀ w1, PureAt P op a w1 v)
    (hn : ∀ w, C w → Facts Sp Vs w → LT P ops Q os tail (a.put op.dst v) w) : Hl P md ops Q C Sp p op os tail a Vs := ⟨hg, v, hs, h, hn⟩
end
theorem kX {P : Program} {id : Nat} {Q : Exit → Act → World → Prop} {a : Act} {W : World} {l : List Oper} (F : Fz) (hd : List Nat) (p s : Nat) (tl : List Nat) (L : List (Nat × Mark)) (hm : P.follows .mixedOrders = true) (hB : Ak .any l.toArray hd p s tl = true) (e1 : (jH l hd).map (·.1) = hd) (e2 : (jH l tl).map (·.1) = tl)
    {op os : Oper} (e3 : l[p]? = some op) (e4 : l[s]? = some os)
    (h : GP P .any l.toArray (fun w' => Below W.heap.size W w') (gI W F L) (Hl P .any l.toArray Q (fun w' => Below W.heap.size W w') (gI W F L) p op os ((jH l tl).map (·.2))) (jH l hd) a (fun _ => none)) : (Code.region id l.toArray true).wp P Q a W :=
  DU hd p s tl op os (gI W F L) hm hB e1 e2 e3 e4 vL h.out
theorem zF {P : Program} {w0 w : World} {F0 F : Fz} {L : List Blk} {M : List RowP} {ops : Array Oper} {Q : Exit → Act → World → Prop} {a : Act} {rest : List Oper} {t T T' : TypeId} {x y : Operand} {pos : String} {after : Array Edge} {i n j : Nat} {c : List Value} {v : Value} (S : St w0 F0 w F L M)
    (hx : a.eval x = .pointer (some ⟨n, j, none⟩)) (hy : a.eval y = v) (hL : L[i]? = some ⟨n, c, T'⟩)
    (hi : (P.info? T).map (·.size) = some v.cells.size) (h1 : v.cells.all (·.oneCell') = true) (hl : j + v.cells.size ≤ c.length)
    (h : ∀ w', St w0 F0 w' F (L.set i ⟨n, cA c j v.cells.toList, T'⟩) M → WL P ops Q rest a w') : LT P ops Q ⟨none, .store T x y, t, pos, after, none⟩ rest a w := by
 have hs := JP (P := P) (T := T) (v := v) hi (S.there hL j v.cells.size hl) h1
 exact ⟨⟨_, rfl, rfl, wZ hx (by rw [hy]; exact hs), (h _ (S.store hL j v.cells.toList (by simpa using hl))).out⟩⟩
theorem Sl.dropF {α : Type} {k : Nat} {R : Fz → List Value → α → Prop} {w : World} {F : Fz} {n : Nat} {cs : List Value} {T : TypeId} (hs : Sat w F) (hb : w.heap[n]? = some (.cells cs.toArray T (0, 0))) (hR : ∀ c p, R F c p → R (Proofs.YtilgpdpooildcaaGreatDoor.dropF F n) c p) (hx : ∀ (c : List Value) p, R F c p → ∃ (j : Nat) (u : Value), c[j]? = some u ∧ u ∉ cs) {v : Value} {l : List α} (h : Sl k R F v l) : Sl k R (Proofs.YtilgpdpooildcaaGreatDoor.dropF F n) v l := by
 obtain ⟨xs, ⟨a, c, h1, h2, h3, h4, h5⟩, hr, hk⟩ := h
 refine ⟨xs, ⟨a, c, h1, h2, h3, h4, ?_⟩, hr.imp hR, hk⟩
 rcases h5 with h5 | ⟨b, o, e, h6⟩
 exact .inl h5
 by_cases hbn : b = n
 cases xs with
 | nil => exact .inl rfl
 | cons x xs =>
  exfalso
  cases l with
  | nil => exact hr
  | cons p l =>
   obtain ⟨j, u, hj, hu⟩ := hx _ _ hr.1
   have h0 := h6 j u (by
    rw [List.flatten_cons, List.getElem?_append_left (List.getElem?_eq_some_iff.1 hj).1]
    exact hj)
   subst hbn
   unfold bM at h0
   split at h0
   rename_i c0 t0 fr0 hF
   have := hs _ _ hF
   rw [hb] at this
   cases this
   have hm : u ∈ cs := by
    have : cs[o + j]? = some u := by simpa using h0
    exact List.mem_of_getElem? this
   exact hu hm
   cases h0
 refine .inr ⟨b, o, e, fun j u hu => ?_⟩
 have h0 := h6 j u hu
 unfold bM Proofs.YtilgpdpooildcaaGreatDoor.dropF at *
 rw [if_neg hbn]
 exact h0
section
variable {w : World} {F : Fz} {n : Nat} {cs : List Value} {T : TypeId}
theorem Rds.dropF (hs : Sat w F) (hb : w.heap[n]? = some (.cells cs.toArray T (0, 0))) (hc : ∀ u ∈ cs, ∀ x, u ≠ bv x) (hc2 : ∀ b, Value.bool b ∉ cs) {v : Value} {l : List Rd} (h : Rds F v l) : Rds (Proofs.YtilgpdpooildcaaGreatDoor.dropF F n) v l :=
  Sl.dropF hs hb (RdC.dropF hs hb hc) (fun c p ⟨a0, a1, a2, a3, e, _, _, e2, _⟩ => ⟨2, a2, by rw [e]; rfl, by rw [e2]; exact hc2 _⟩) h
theorem Wrs.dropF (hs : Sat w F) (hb : w.heap[n]? = some (.cells cs.toArray T (0, 0))) (hc : ∀ u ∈ cs, ∀ x, u ≠ bv x) (hc2 : ∀ b, Value.bool b ∉ cs) {v : Value} {l : List Wr} (h : Wrs F v l) : Wrs (Proofs.YtilgpdpooildcaaGreatDoor.dropF F n) v l :=
  Sl.dropF hs hb (WrC.dropF hs hb hc) (fun c p ⟨a0, a1, a2, a3, e, _, _, e2, _⟩ => ⟨2, a2, by rw [e]; rfl, by rw [e2]; exact hc2 _⟩) h
end
structure HL (P : Program) (ops : Array Oper) (Q : Exit → Act → World → Prop) (F : Fz) (fuel : Nat) (listed : Array Bool) (a : Act) (w : World) : Prop where
  out : Go.wpAnyH P .any ops Q (fun w => Sat w F) fuel listed a w
section
variable {P : Program} {ops : Array Oper} {Q : Exit → Act → World → Prop} {F : Fz} {fuel : Nat} {listed : Array Bool} {a : Act} {w : World} {o : Oper}
theorem jY {id : Nat} {l : List Oper} {w0 : World} {F0 : Fz} {L : List Blk} {M : List RowP} (S : St w0 F0 w F L M) (hm : P.follows .mixedOrders = true) (h : ∀ w', St w0 F0 w' F L M → HL P l.toArray Q F l.length (Array.replicate l.length false) a w') : (Code.region id l.toArray true).wp P Q a w := by
 have := (h { w with drawn := w.drawn + 1 } (S.tells (Below.refl w.heap.size w).drew)).out
 refine wp_region_held (S := fun w => Sat w F) hm ?_
 simpa using this
def jZ (ops : Array Oper) (listed : Array Bool) (i : Nat) : Bool := Region.noSelect ops && Region.free .any ops listed i && (Region.ready .any ops listed).contains i
theorem BL {l : List Oper} (i : Nat) (hi : l[i]? = some o) (hc : jZ l.toArray listed i = true) {v : Value} (hQ : ∀ c a w, Q (.panic c) (a.put o.dst v) w → Q (.panic c) a w) (hS : Sat w F) (hw : Region.wanted o (yielded l.toArray a.tmps) = true)
    (hr : ∀ w1, Sat w1 F → (execOp a.eval o).run P w1 = .ok (.value v) w1) (h : HL P l.toArray Q F fuel (listed.setIfInBounds i true) (a.put o.dst v) w) : HL P l.toArray Q F (fuel + 1) listed a w := by
 simp only [jZ, Bool.and_eq_true] at hc
 exact ⟨Go.wpAnyH_take (by simpa using hi) hc.1.1 hc.1.2 hc.2 hQ (.inl ⟨hw, hr⟩) hS h.out⟩
theorem Oper.wp_exit {K K' : Act → World → Prop} (hh : o.wp P a w K (Exit.then K' Q)) : o.wp P a w K Q := by
 unfold Oper.wp at *
 generalize (execOp a.eval o).run P w = r at *
 cases r with
 | ok n w' =>
  cases n <;> simp only [Oper.upon] at hh ⊢ <;> try exact hh
 | halt x w' => cases x <;> exact hh
theorem eB {l : List Oper} (i : Nat) (hr : Region.ready .any l.toArray listed = [i]) (hi : l[i]? = some o) (h : WL P l.toArray (Exit.then (fun a' w' => Sat w' F ∧ Go.wpAnyH P .any l.toArray Q (fun w => Sat w F) fuel (listed.setIfInBounds i true) a' w') Q) [o] a w) : HL P l.toArray Q F (fuel + 1) listed a w := by
 refine ⟨Go.wpAnyH_all hr (by simp) fun j hj => ?_⟩
 have hji : j = i := by simpa using hj
 subst hji
 have h1 := h.out
 unfold wpList at h1
 unfold wpOp
 have hi' : l.toArray[j]? = some o := by simpa using hi
 simp only [hi']
 split
 rename_i hw
 rw [if_pos hw] at h1
 rcases h1 with h1 | h1
 left
 refine Oper.wp_mono (fun a' w' hk => ?_) (Oper.wp_exit h1)
 exact hk
 exact .inr h1
 rename_i hw
 rw [if_neg hw] at h1
 exact h1
theorem cW (hS : Sat w F) (h : HL P ops Q F fuel listed a w) : Exit.then (fun a' w' => Sat w' F ∧ Go.wpAnyH P .any ops Q (fun w => Sat w F) fuel listed a' w') Q .normal a w := ⟨hS, h.out⟩
theorem kA (hr : Region.ready .any ops listed = []) (h : Q .normal a w) : HL P ops Q F fuel listed a w := ⟨Go.wpAnyH_done hr h _⟩
end
section
variable {P : Program} {Q : Exit → Act → World → Prop} {F : Fz} {fuel : Nat} {listed : Array Bool} {a : Act} {w : World} {o : Oper} {l : List Oper} {d : Option Tmp} {t : TypeId} {pos : String} {after : Array Edge} {guard : Option (Nat × Bool)} {x : Operand} {v : Value} {p : Addr} {n : Nat} {vs : Array Value}
theorem dJ (i : Nat) (hi : l[i]? = some o) (v : Value) (hS : Sat w F) (hr : ∀ w1, Sat w1 F → (execOp a.eval o).run P w1 = .ok (.value v) w1) (h : HL P l.toArray Q F fuel (listed.setIfInBounds i true) (a.put o.dst v) w) (hc : jZ l.toArray listed i = true := by kernel_rfl) (hQ : ∀ c a w, Q (.panic c) (a.put o.dst v) w → Q (.panic c) a w := by exact fun _ _ _ h => h) (hw : Region.wanted o (yielded l.toArray a.tmps) = true := by exact rfl) : HL P l.toArray Q F (fuel + 1) listed a w := BL i hi hc hQ hS hw hr h
theorem gT (i : Nat) (hi : l[i]? = some ⟨d, .move x, t, pos, after, guard⟩) (hS : Sat w F) (h : HL P l.toArray Q F fuel (listed.setIfInBounds i true) (a.put d v) w) (hx : ev a x = some v := by exact rfl) (hc : jZ l.toArray listed i = true := by kernel_rfl) (hQ : ∀ c a w, Q (.panic c) (a.put d v) w → Q (.panic c) a w := by exact fun _ _ _ h => h) (hw : Region.wanted ⟨d, .move x, t, pos, after, guard⟩ (yielded l.toArray a.tmps) = true := by exact rfl) : HL P l.toArray Q F (fuel + 1) listed a w := BL i hi hc hQ hS hw (fun w _ => dH hx ▸ fF _) h
theorem kI (i : Nat) (hi : l[i]? = some ⟨d, .assign x, t, pos, after, guard⟩) (hS : Sat w F) (h : HL P l.toArray Q F fuel (listed.setIfInBounds i true) (a.put d v) w) (hx : ev a x = some v := by exact rfl) (hc : jZ l.toArray listed i = true := by kernel_rfl) (hQ : ∀ c a w, Q (.panic c) (a.put d v) w → Q (.panic c) a w := by exact fun _ _ _ h => h) (hw : Region.wanted ⟨d, .assign x, t, pos, after, guard⟩ (yielded l.toArray a.tmps) = true := by exact rfl) : HL P l.toArray Q F (fuel + 1) listed a w := BL i hi hc hQ hS hw (fun w _ => dH hx ▸ qP _) h
theorem IL (i : Nat) (hi : l[i]? = some ⟨d, .nilCheck x, t, pos, after, guard⟩) (hS : Sat w F) (h : HL P l.toArray Q F fuel (listed.setIfInBounds i true) (a.put d (.pointer (some p))) w) (hx : ev a x = some (.pointer (some p)) := by exact rfl) (hc : jZ l.toArray listed i = true := by kernel_rfl) (hQ : ∀ c a w, Q (.panic c) (a.put d (.pointer (some p))) w → Q (.panic c) a w := by exact fun _ _ _ h => h) (hw : Region.wanted ⟨d, .nilCheck x, t, pos, after, guard⟩ (yielded l.toArray a.tmps) = true := by exact rfl) : HL P l.toArray Q F (fuel + 1) listed a w := BL i hi hc hQ hS hw (fun w _ => lX (dH hx)) h
end
end Go.Proofs.YtilgpdpooildcaaGreatDoor
