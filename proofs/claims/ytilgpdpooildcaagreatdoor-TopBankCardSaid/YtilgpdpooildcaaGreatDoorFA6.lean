/- Rules, plain laws and walks: X2 X3 P13 X4 K7 X5 -/
import Derived.Test.YtilgpdpooildcaaGreatDoorFA2
import Derived.Test.YtilgpdpooildcaaGreatDoorFA3
import Derived.Test.YtilgpdpooildcaaGreatDoorFA5
import Derived.Test.YtilgpdpooildcaaGreatDoorFA1
namespace Go.Proofs.YtilgpdpooildcaaGreatDoor
set_option maxHeartbeats 8000000
open Go.RowKit
set_option maxRecDepth 100000
set_option linter.unusedVariables false
set_option linter.unusedSimpArgs false
def RdP (F : Fz) (b : Nat) (p : Rd) : Prop := ∃ x0 y0 x1 y1 x3 y3, bH F b 0 = some (.slice x0 p.name.length y0) ∧ bH F b 1 = some (.slice x1 p.key.length y1) ∧ bH F b 2 = some (.bool p.wide) ∧ bH F b 3 = some (.slice x3 p.last.length y3) ∧ Bs F (.slice x0 p.name.length y0) p.name ∧ Bs F (.slice x1 p.key.length y1) p.key ∧ Bs F (.slice x3 p.last.length y3) p.last
def WrP (F : Fz) (b : Nat) (p : Wr) : Prop := ∃ x0 y0 x1 y1 x3 y3, bH F b 0 = some (.slice x0 p.name.length y0) ∧ bH F b 1 = some (.slice x1 p.key.length y1) ∧ bH F b 2 = some (.bool p.gone) ∧ bH F b 3 = some (.slice x3 p.value.length y3) ∧ Bs F (.slice x0 p.name.length y0) p.name ∧ Bs F (.slice x1 p.key.length y1) p.key ∧ Bs F (.slice x3 p.value.length y3) p.value
theorem RdP.mono {F F' : Fz} {b : Nat} {p : Rd} (h : RdP F b p) (hl : Le F F') : RdP F' b p := by
 obtain ⟨x0, y0, x1, y1, x3, y3, c0, c1, c2, c3, h0, h1, h3⟩ := h
 exact ⟨x0, y0, x1, y1, x3, y3, Le.cell hl c0, Le.cell hl c1, Le.cell hl c2, Le.cell hl c3, h0.mono hl, h1.mono hl, h3.mono hl⟩
theorem WrP.mono {F F' : Fz} {b : Nat} {p : Wr} (h : WrP F b p) (hl : Le F F') : WrP F' b p := by
 obtain ⟨x0, y0, x1, y1, x3, y3, c0, c1, c2, c3, h0, h1, h3⟩ := h
 exact ⟨x0, y0, x1, y1, x3, y3, Le.cell hl c0, Le.cell hl c1, Le.cell hl c2, Le.cell hl c3, h0.mono hl, h1.mono hl, h3.mono hl⟩
def lG {α : Type} (l : List α) (g : α → Bool) : Int := match l.findIdx? g with | some i => (i : Int) | none => -1
theorem sN {α : Type} {l : List α} {g : α → Bool} {k : Nat} {p : α} (hp : l[k]? = some p) (h : g p = true) (hb : ∀ (i : Nat) q, i < k → l[i]? = some q → g q = false) : lG l g = (k : Int) := by
 have : l.findIdx? g = some k := by
  obtain ⟨hk, rfl⟩ := List.getElem?_eq_some_iff.1 hp
  rw [List.findIdx?_eq_some_iff_getElem]
  exact ⟨hk, h, fun j hj => by rw [hb j _ hj (List.getElem?_eq_getElem (by omega))]; simp⟩
 unfold lG; rw [this]
theorem qC {α : Type} {l : List α} {g : α → Bool} (hb : ∀ (i : Nat) q, i < l.length → l[i]? = some q → g q = false) : lG l g = -1 := by
 have : l.findIdx? g = none := by
  rw [List.findIdx?_eq_none_iff]
  intro x hx
  obtain ⟨i, hi, rfl⟩ := List.mem_iff_getElem.1 hx
  exact hb i _ hi (List.getElem?_eq_getElem hi)
 unfold lG; rw [this]
theorem wP {α : Type} {l : List α} {g : α → Bool} : decide (0 ≤ lG l g) = l.any g := by
 unfold lG
 cases h : l.findIdx? g with
 | none =>
  rw [List.findIdx?_eq_none_iff] at h
  have : l.any g = false := by rw [List.any_eq_false]; intro x hx; rw [h x hx]; simp
  rw [this]; rfl
 | some i =>
  rw [List.findIdx?_eq_some_iff_getElem] at h
  obtain ⟨hi, h1, _⟩ := h
  have : l.any g = true := List.any_eq_true.2 ⟨_, List.getElem_mem hi, h1⟩
  rw [this]; simp
theorem JN (F : Fz) (w : World) (v : Value) (b : Nat) (q : Rd) (r : Rd) (hs : Sat w F) (hv : RdV F v q) (hr : RdP F b r) :
    Calls Tryz.prog 135 #[v, .pointer (some ⟨b, 0, none⟩)] w (cY w (.bool (decide (q = r)))) := by
 obtain ⟨x0, x1, x2, x3, x4, x5, rfl, h0, h1, h3⟩ := hv
 obtain ⟨z0, z1, z2, z3, z4, z5, c0, c1, c2, c3, k0, k1, k3⟩ := hr
 have S := St.start hs
 go_enter Tryz.func135, Tryz.ntmps135
 refine sk fun K1 hK1 => ?_
 refine aZ S (v := fun n => .pointer (aA n 0)) rfl (bW (v := (.agg #[(.slice x0 q.name.length x1), (.slice x2 q.key.length x3), (.bool q.wide), (.slice x4 q.last.length x5)])) rfl) (fun n2 w3 S4 => ?_)
 refine dy ?_
 refine wn hK1 ?_
 refine sk fun K5 hK5 => ?_
 refine dR S4 0 Tryz.underlying179 (dE) ?_
 refine dr _ (aE rfl (cU Tryz.underlying179 rfl (dE) (eL (St.fz S4 c0) (St.fz S4 c1) (St.fz S4 c2) (St.fz S4 c3)))) ?_
 simp only [pq]
 refine aL (v := (.bool (decide (q = r)))) S4 rfl (fn2 (PT _ _)) (uF _ _ _ _ _ _ (S4).sat ⟨_, _, _, _, _, _, rfl, h0, h1, h3⟩ ⟨_, _, _, _, _, _, rfl, k0, k1, k3⟩) (fun w6 S7 => ?_)
 refine dy ?_
 refine wn hK5 ?_
 refine aO ?_
 try simp only [xt]
 refine bR (bC rfl (gD rfl)) ?_
 exact ⟨rfl, S7.gr.below⟩
theorem HK (F : Fz) (w : World) (v : Value) (b : Nat) (l : List Rd) (r : Rd) (hs : Sat w F) (hv : Rds F v l) (hr : RdP F b r) (hl : l.length ≤ 1000000) :
    Calls Tryz.prog 146 #[v, .func (.func 135) #[] #[.pointer (some ⟨b, 0, none⟩)]] w (cY w (.int .i64 (lG l (fun q : Rd => (decide (q = r)))))) := by
 obtain ⟨a, c, rfl, hc1, hc2⟩ := Sl.shape hv
 unfold maxLen at hc2
 have S := St.start hs
 go_enter Tryz.func146, Tryz.ntmps146
 refine sk fun K1 hK1 => ?_
 refine dy ?_
 refine wn hK1 ?_
 refine aF fun K2 hK2 => ?_
 refine sk fun K3 hK3 => ?_
 refine aC ?_
 refine wn hK3 ?_
 refine aM ?_
 refine aW (fun mm aa w5 => ∃ (k : Nat) (u4 : Nat → Value), mm = l.length - k ∧ u4 = dY aa ∧ aa = ⟨([(.slice a l.length c), (.func (.func 135) #[] #[(pP b 0)]), undef, undef, (u4 4), (u4 5), (.slice a l.length c), (nI l.length), (nI k)] ++ (usF u4 9 10 [])).toArray, []⟩ ∧ St w F w5 F [] [] ∧ (k ≤ l.length) ∧ (∀ (i : Nat) q, i < k → l[i]? = some q → (fun q : Rd => (decide (q = r))) q = false)) _ ⟨0, _, rfl, rfl, rfl, S, (by omega), (fun i q hi => absurd hi (by omega))⟩ ?_
 rintro m6 a7 w8 ⟨k, u4, rfl, -, hfr, S9, hk, hbad⟩ c9 a9
 simp only [uzF, Nat.reduceAdd] at hfr; subst hfr
 refine sk fun d0 a1 => ?_
 by_cases hc9 : k < l.length
 refine fA ?_
 refine wn a1 ?_
 refine aF fun d1 b0 => ?_
 refine aK ?_
 refine aI ?_
 refine b0 _ _ ?_
 refine aF fun d2 b1 => ?_
 refine aM ?_
 refine sk fun d3 b2 => ?_
 refine aC ?_
 refine wn b2 ?_
 refine aF fun d4 b3 => ?_
 obtain ⟨p, hp⟩ : ∃ p, l[k]? = some p := ⟨l[k], List.getElem?_eq_getElem hc9⟩
 obtain ⟨b9, c0, b4, a2, a3, a4, a5, a6, a8, c1, c2, c3, c4, c5, c6, c7⟩ := Rds.get hv hp
 refine aB ?_
 refine aC ?_
 refine dr (pP b9 (c0 + k * 4)) (bK (i := k) (sz := 4) Tryz.underlying139 (jE _) rfl b4 rfl (by omega) rfl) ?_
 refine dr _ (aE rfl (cU Tryz.underlying179 rfl (dE) (eL (St.fz S9 c1) (St.fz S9 c2) (St.fz S9 c3) (St.fz S9 c4)))) ?_
 refine aL (v := (.bool ((fun q : Rd => (decide (q = r))) p))) S9 rfl (uE (fs := #[]) (cs := #[(pP b 0)]) (vs := #[(.agg #[(.slice a2 p.name.length a3), (.slice a4 p.key.length a5), (.bool p.wide), (.slice a6 p.last.length a8)]), (pP b 0)]) rfl (CY (fs := #[]) (cs := #[(pP b 0)]) (xs := #[(.agg #[(.slice a2 p.name.length a3), (.slice a4 p.key.length a5), (.bool p.wide), (.slice a6 p.last.length a8)])]) (kX rfl) (by simp)) (Am _ _)) (JN _ _ _ b p r (S9).sat ⟨_, _, _, _, _, _, rfl, c5, c6, c7⟩ hr) (fun d5 b7 => ?_)
 refine wlK b3 ?_
 refine wp_cond_split rfl (fun a0 => ?_) (fun a0 => ?_)
 refine sk fun d6 b5 => ?_
 refine aC ?_
 refine wn b5 ?_
 refine aO ?_
 try simp only [xt]
 refine bR (bC rfl (gD rfl)) ?_
 exact ⟨by rw [sN hp a0 hbad], b7.gr.below⟩
 refine aI ?_
 refine b1 _ _ ?_
 refine aB ?_
 refine cD (k + 1) ?_
 refine dx ?_
 refine aH ?_
 exact a9 _ _ _ (by omega) ⟨(k + 1), _, rfl, rfl, rfl, b7, (by omega), (fun i q hi hq => by rcases Nat.lt_succ_iff_lt_or_eq.1 hi with h | rfl; exact hbad i q h hq; (rw [hp] at hq; cases hq; exact a0))⟩
 refine eM ?_
 simp only [pq]
 refine wn a1 ?_
 refine aF fun d7 c8 => ?_
 refine aG ?_
 refine cS ?_
 refine hK2 _ _ ?_
 refine sk fun d8 b6 => ?_
 refine dy ?_
 refine wn b6 ?_
 refine aO ?_
 try simp only [xt]
 refine bR (bC rfl (gD rfl)) ?_
 exact ⟨by rw [qC (fun i q hi hq => hbad i q (by omega) hq)], S9.gr.below⟩
theorem zA (F : Fz) (w : World) (v : Value) (b : Nat) (l : List Rd) (r : Rd) (hs : Sat w F) (hv : Rds F v l) (hr : RdP F b r) (hl : l.length ≤ 1000000) :
    Calls Tryz.prog 127 #[v, .func (.func 135) #[] #[.pointer (some ⟨b, 0, none⟩)]] w (cY w (.bool (l.any (fun q : Rd => (decide (q = r)))))) := by
 obtain ⟨a, c, rfl, hc1, hc2⟩ := Sl.shape hv
 have S := St.start hs
 go_enter Tryz.func127, Tryz.ntmps127
 refine sk fun K1 hK1 => ?_
 refine dy ?_
 refine wn hK1 ?_
 refine sk fun K2 hK2 => ?_
 refine aC ?_
 refine aL (v := (.int .i64 (lG l (fun q : Rd => (decide (q = r)))))) S rfl (fn2 (GN _ _)) (HK _ _ _ b l r (S).sat hv hr hl) (fun w3 S4 => ?_)
 refine dr (.bool (l.any (fun q : Rd => (decide (q = r))))) (xN (m := lG l (fun q : Rd => (decide (q = r)))) (n := 0) (b := l.any (fun q : Rd => (decide (q = r)))) rfl rfl wP) ?_
 refine dy ?_
 refine wn hK2 ?_
 refine aO ?_
 try simp only [xt]
 refine bR (bC rfl (gD rfl)) ?_
 exact ⟨rfl, S4.gr.below⟩
theorem NN (F : Fz) (w : World) (v : Value) (b : Nat) (q : Rd) (r : Rd) (hs : Sat w F) (hv : RdV F v q) (hr : RdP F b r) :
    Calls Tryz.prog 128 #[v, .pointer (some ⟨b, 0, none⟩)] w (cY w (.bool (decide (q = r)))) := by
 obtain ⟨x0, x1, x2, x3, x4, x5, rfl, h0, h1, h3⟩ := hv
 obtain ⟨z0, z1, z2, z3, z4, z5, c0, c1, c2, c3, k0, k1, k3⟩ := hr
 have S := St.start hs
 go_enter Tryz.func128, Tryz.ntmps128
 refine sk fun K1 hK1 => ?_
 refine aZ S (v := fun n => .pointer (aA n 0)) rfl (bW (v := (.agg #[(.slice x0 q.name.length x1), (.slice x2 q.key.length x3), (.bool q.wide), (.slice x4 q.last.length x5)])) rfl) (fun n2 w3 S4 => ?_)
 refine dy ?_
 refine wn hK1 ?_
 refine sk fun K5 hK5 => ?_
 refine dR S4 0 Tryz.underlying179 (dE) ?_
 refine dr _ (aE rfl (cU Tryz.underlying179 rfl (dE) (eL (St.fz S4 c0) (St.fz S4 c1) (St.fz S4 c2) (St.fz S4 c3)))) ?_
 simp only [pq]
 refine aL (v := (.bool (decide (q = r)))) S4 rfl (fn2 (PT _ _)) (uF _ _ _ _ _ _ (S4).sat ⟨_, _, _, _, _, _, rfl, h0, h1, h3⟩ ⟨_, _, _, _, _, _, rfl, k0, k1, k3⟩) (fun w6 S7 => ?_)
 refine dy ?_
 refine wn hK5 ?_
 refine aO ?_
 try simp only [xt]
 refine bR (bC rfl (gD rfl)) ?_
 exact ⟨rfl, S7.gr.below⟩
theorem JO (F : Fz) (w : World) (v : Value) (b : Nat) (l : List Rd) (r : Rd) (hs : Sat w F) (hv : Rds F v l) (hr : RdP F b r) (hl : l.length ≤ 1000000) :
    Calls Tryz.prog 146 #[v, .func (.func 128) #[] #[.pointer (some ⟨b, 0, none⟩)]] w (cY w (.int .i64 (lG l (fun q : Rd => (decide (q = r)))))) := by
 obtain ⟨a, c, rfl, hc1, hc2⟩ := Sl.shape hv
 unfold maxLen at hc2
 have S := St.start hs
 go_enter Tryz.func146, Tryz.ntmps146
 refine sk fun K1 hK1 => ?_
 refine dy ?_
 refine wn hK1 ?_
 refine aF fun K2 hK2 => ?_
 refine sk fun K3 hK3 => ?_
 refine aC ?_
 refine wn hK3 ?_
 refine aM ?_
 refine aW (fun mm aa w5 => ∃ (k : Nat) (u4 : Nat → Value), mm = l.length - k ∧ u4 = dY aa ∧ aa = ⟨([(.slice a l.length c), (.func (.func 128) #[] #[(pP b 0)]), undef, undef, (u4 4), (u4 5), (.slice a l.length c), (nI l.length), (nI k)] ++ (usF u4 9 10 [])).toArray, []⟩ ∧ St w F w5 F [] [] ∧ (k ≤ l.length) ∧ (∀ (i : Nat) q, i < k → l[i]? = some q → (fun q : Rd => (decide (q = r))) q = false)) _ ⟨0, _, rfl, rfl, rfl, S, (by omega), (fun i q hi => absurd hi (by omega))⟩ ?_
 rintro m6 a7 w8 ⟨k, u4, rfl, -, hfr, S9, hk, hbad⟩ c9 a9
 simp only [uzF, Nat.reduceAdd] at hfr; subst hfr
 refine sk fun d0 a1 => ?_
 by_cases hc9 : k < l.length
 refine fA ?_
 refine wn a1 ?_
 refine aF fun d1 b0 => ?_
 refine aK ?_
 refine aI ?_
 refine b0 _ _ ?_
 refine aF fun d2 b1 => ?_
 refine aM ?_
 refine sk fun d3 b2 => ?_
 refine aC ?_
 refine wn b2 ?_
 refine aF fun d4 b3 => ?_
 obtain ⟨p, hp⟩ : ∃ p, l[k]? = some p := ⟨l[k], List.getElem?_eq_getElem hc9⟩
 obtain ⟨b9, c0, b4, a2, a3, a4, a5, a6, a8, c1, c2, c3, c4, c5, c6, c7⟩ := Rds.get hv hp
 refine aB ?_
 refine aC ?_
 refine dr (pP b9 (c0 + k * 4)) (bK (i := k) (sz := 4) Tryz.underlying139 (jE _) rfl b4 rfl (by omega) rfl) ?_
 refine dr _ (aE rfl (cU Tryz.underlying179 rfl (dE) (eL (St.fz S9 c1) (St.fz S9 c2) (St.fz S9 c3) (St.fz S9 c4)))) ?_
 refine aL (v := (.bool ((fun q : Rd => (decide (q = r))) p))) S9 rfl (uE (fs := #[]) (cs := #[(pP b 0)]) (vs := #[(.agg #[(.slice a2 p.name.length a3), (.slice a4 p.key.length a5), (.bool p.wide), (.slice a6 p.last.length a8)]), (pP b 0)]) rfl (CY (fs := #[]) (cs := #[(pP b 0)]) (xs := #[(.agg #[(.slice a2 p.name.length a3), (.slice a4 p.key.length a5), (.bool p.wide), (.slice a6 p.last.length a8)])]) (kX rfl) (by simp)) (Ah _ _)) (NN _ _ _ b p r (S9).sat ⟨_, _, _, _, _, _, rfl, c5, c6, c7⟩ hr) (fun d5 b7 => ?_)
 refine wlK b3 ?_
 refine wp_cond_split rfl (fun a0 => ?_) (fun a0 => ?_)
 refine sk fun d6 b5 => ?_
 refine aC ?_
 refine wn b5 ?_
 refine aO ?_
 try simp only [xt]
 refine bR (bC rfl (gD rfl)) ?_
 exact ⟨by rw [sN hp a0 hbad], b7.gr.below⟩
 refine aI ?_
 refine b1 _ _ ?_
 refine aB ?_
 refine cD (k + 1) ?_
 refine dx ?_
 refine aH ?_
 exact a9 _ _ _ (by omega) ⟨(k + 1), _, rfl, rfl, rfl, b7, (by omega), (fun i q hi hq => by rcases Nat.lt_succ_iff_lt_or_eq.1 hi with h | rfl; exact hbad i q h hq; (rw [hp] at hq; cases hq; exact a0))⟩
 refine eM ?_
 simp only [pq]
 refine wn a1 ?_
 refine aF fun d7 c8 => ?_
 refine aG ?_
 refine cS ?_
 refine hK2 _ _ ?_
 refine sk fun d8 b6 => ?_
 refine dy ?_
 refine wn b6 ?_
 refine aO ?_
 try simp only [xt]
 refine bR (bC rfl (gD rfl)) ?_
 exact ⟨by rw [qC (fun i q hi hq => hbad i q (by omega) hq)], S9.gr.below⟩
theorem BU (F : Fz) (w : World) (v : Value) (b : Nat) (l : List Rd) (r : Rd) (hs : Sat w F) (hv : Rds F v l) (hr : RdP F b r) (hl : l.length ≤ 1000000) :
    Calls Tryz.prog 127 #[v, .func (.func 128) #[] #[.pointer (some ⟨b, 0, none⟩)]] w (cY w (.bool (l.any (fun q : Rd => (decide (q = r)))))) := by
 obtain ⟨a, c, rfl, hc1, hc2⟩ := Sl.shape hv
 have S := St.start hs
 go_enter Tryz.func127, Tryz.ntmps127
 refine sk fun K1 hK1 => ?_
 refine dy ?_
 refine wn hK1 ?_
 refine sk fun K2 hK2 => ?_
 refine aC ?_
 refine aL (v := (.int .i64 (lG l (fun q : Rd => (decide (q = r)))))) S rfl (fn2 (GN _ _)) (JO _ _ _ b l r (S).sat hv hr hl) (fun w3 S4 => ?_)
 refine dr (.bool (l.any (fun q : Rd => (decide (q = r))))) (xN (m := lG l (fun q : Rd => (decide (q = r)))) (n := 0) (b := l.any (fun q : Rd => (decide (q = r)))) rfl rfl wP) ?_
 refine dy ?_
 refine wn hK2 ?_
 refine aO ?_
 try simp only [xt]
 refine bR (bC rfl (gD rfl)) ?_
 exact ⟨rfl, S4.gr.below⟩
theorem JP (F : Fz) (w : World) (v : Value) (b : Nat) (q : Wr) (r : Wr) (hs : Sat w F) (hv : WrV F v q) (hr : WrP F b r) :
    Calls Tryz.prog 137 #[v, .pointer (some ⟨b, 0, none⟩)] w (cY w (.bool (cT q r))) := by
 obtain ⟨x0, x1, x2, x3, x4, x5, rfl, h0, h1, h3⟩ := hv
 obtain ⟨z0, z1, z2, z3, z4, z5, c0, c1, c2, c3, k0, k1, k3⟩ := hr
 have S := St.start hs
 go_enter Tryz.func137, Tryz.ntmps137
 refine sk fun K1 hK1 => ?_
 refine aZ S (v := fun n => .pointer (aA n 0)) rfl (bW (v := (.agg #[(.slice x0 q.name.length x1), (.slice x2 q.key.length x3), (.bool q.gone), (.slice x4 q.value.length x5)])) rfl) (fun n2 w3 S4 => ?_)
 refine dy ?_
 refine wn hK1 ?_
 refine sk fun K5 hK5 => ?_
 refine dR S4 0 Tryz.underlying39 (bI) ?_
 refine dr _ (aE rfl (cU Tryz.underlying39 rfl (bI) (eL (St.fz S4 c0) (St.fz S4 c1) (St.fz S4 c2) (St.fz S4 c3)))) ?_
 simp only [pq]
 refine aL (v := (.bool (cT q r))) S4 rfl (fn2 (GL _ _)) (oA _ _ _ _ _ _ (S4).sat ⟨_, _, _, _, _, _, rfl, h0, h1, h3⟩ ⟨_, _, _, _, _, _, rfl, k0, k1, k3⟩) (fun w6 S7 => ?_)
 refine dy ?_
 refine wn hK5 ?_
 refine aO ?_
 try simp only [xt]
 refine bR (bC rfl (gD rfl)) ?_
 exact ⟨rfl, S7.gr.below⟩
theorem HM (F : Fz) (w : World) (v : Value) (b : Nat) (l : List Wr) (r : Wr) (hs : Sat w F) (hv : Wrs F v l) (hr : WrP F b r) (hl : l.length ≤ 1000000) :
    Calls Tryz.prog 115 #[v, .func (.func 137) #[] #[.pointer (some ⟨b, 0, none⟩)]] w (cY w (.int .i64 (lG l (fun q : Wr => (cT q r))))) := by
 obtain ⟨a, c, rfl, hc1, hc2⟩ := Sl.shape hv
 unfold maxLen at hc2
 have S := St.start hs
 go_enter Tryz.func115, Tryz.ntmps115
 refine sk fun K1 hK1 => ?_
 refine dy ?_
 refine wn hK1 ?_
 refine aF fun K2 hK2 => ?_
 refine sk fun K3 hK3 => ?_
 refine aC ?_
 refine wn hK3 ?_
 refine aM ?_
 refine aW (fun mm aa w5 => ∃ (k : Nat) (u4 : Nat → Value), mm = l.length - k ∧ u4 = dY aa ∧ aa = ⟨([(.slice a l.length c), (.func (.func 137) #[] #[(pP b 0)]), undef, undef, (u4 4), (u4 5), (.slice a l.length c), (nI l.length), (nI k)] ++ (usF u4 9 10 [])).toArray, []⟩ ∧ St w F w5 F [] [] ∧ (k ≤ l.length) ∧ (∀ (i : Nat) q, i < k → l[i]? = some q → (fun q : Wr => (cT q r)) q = false)) _ ⟨0, _, rfl, rfl, rfl, S, (by omega), (fun i q hi => absurd hi (by omega))⟩ ?_
 rintro m6 a7 w8 ⟨k, u4, rfl, -, hfr, S9, hk, hbad⟩ c9 a9
 simp only [uzF, Nat.reduceAdd] at hfr; subst hfr
 refine sk fun d0 a1 => ?_
 by_cases hc9 : k < l.length
 refine fA ?_
 refine wn a1 ?_
 refine aF fun d1 b0 => ?_
 refine aK ?_
 refine aI ?_
 refine b0 _ _ ?_
 refine aF fun d2 b1 => ?_
 refine aM ?_
 refine sk fun d3 b2 => ?_
 refine aC ?_
 refine wn b2 ?_
 refine aF fun d4 b3 => ?_
 obtain ⟨p, hp⟩ : ∃ p, l[k]? = some p := ⟨l[k], List.getElem?_eq_getElem hc9⟩
 obtain ⟨b9, c0, b4, a2, a3, a4, a5, a6, a8, c1, c2, c3, c4, c5, c6, c7⟩ := Wrs.get hv hp
 refine aB ?_
 refine aC ?_
 refine dr (pP b9 (c0 + k * 4)) (bK (i := k) (sz := 4) Tryz.underlying40 (eT _) rfl b4 rfl (by omega) rfl) ?_
 refine dr _ (aE rfl (cU Tryz.underlying39 rfl (bI) (eL (St.fz S9 c1) (St.fz S9 c2) (St.fz S9 c3) (St.fz S9 c4)))) ?_
 refine aL (v := (.bool ((fun q : Wr => (cT q r)) p))) S9 rfl (uE (fs := #[]) (cs := #[(pP b 0)]) (vs := #[(.agg #[(.slice a2 p.name.length a3), (.slice a4 p.key.length a5), (.bool p.gone), (.slice a6 p.value.length a8)]), (pP b 0)]) rfl (CY (fs := #[]) (cs := #[(pP b 0)]) (xs := #[(.agg #[(.slice a2 p.name.length a3), (.slice a4 p.key.length a5), (.bool p.gone), (.slice a6 p.value.length a8)])]) (kX rfl) (by simp)) (Ao _ _)) (JP _ _ _ b p r (S9).sat ⟨_, _, _, _, _, _, rfl, c5, c6, c7⟩ hr) (fun d5 b7 => ?_)
 refine wlK b3 ?_
 refine wp_cond_split rfl (fun a0 => ?_) (fun a0 => ?_)
 refine sk fun d6 b5 => ?_
 refine aC ?_
 refine wn b5 ?_
 refine aO ?_
 try simp only [xt]
 refine bR (bC rfl (gD rfl)) ?_
 exact ⟨by rw [sN hp a0 hbad], b7.gr.below⟩
 refine aI ?_
 refine b1 _ _ ?_
 refine aB ?_
 refine cD (k + 1) ?_
 refine dx ?_
 refine aH ?_
 exact a9 _ _ _ (by omega) ⟨(k + 1), _, rfl, rfl, rfl, b7, (by omega), (fun i q hi hq => by rcases Nat.lt_succ_iff_lt_or_eq.1 hi with h | rfl; exact hbad i q h hq; (rw [hp] at hq; cases hq; exact a0))⟩
 refine eM ?_
 simp only [pq]
 refine wn a1 ?_
 refine aF fun d7 c8 => ?_
 refine aG ?_
 refine cS ?_
 refine hK2 _ _ ?_
 refine sk fun d8 b6 => ?_
 refine dy ?_
 refine wn b6 ?_
 refine aO ?_
 try simp only [xt]
 refine bR (bC rfl (gD rfl)) ?_
 exact ⟨by rw [qC (fun i q hi hq => hbad i q (by omega) hq)], S9.gr.below⟩
theorem zB (F : Fz) (w : World) (v : Value) (b : Nat) (l : List Wr) (r : Wr) (hs : Sat w F) (hv : Wrs F v l) (hr : WrP F b r) (hl : l.length ≤ 1000000) :
    Calls Tryz.prog 136 #[v, .func (.func 137) #[] #[.pointer (some ⟨b, 0, none⟩)]] w (cY w (.bool (l.any (fun q : Wr => (cT q r))))) := by
 obtain ⟨a, c, rfl, hc1, hc2⟩ := Sl.shape hv
 have S := St.start hs
 go_enter Tryz.func136, Tryz.ntmps136
 refine sk fun K1 hK1 => ?_
 refine dy ?_
 refine wn hK1 ?_
 refine sk fun K2 hK2 => ?_
 refine aC ?_
 refine aL (v := (.int .i64 (lG l (fun q : Wr => (cT q r))))) S rfl (fn2 (PP _ _)) (HM _ _ _ b l r (S).sat hv hr hl) (fun w3 S4 => ?_)
 refine dr (.bool (l.any (fun q : Wr => (cT q r)))) (xN (m := lG l (fun q : Wr => (cT q r))) (n := 0) (b := l.any (fun q : Wr => (cT q r))) rfl rfl wP) ?_
 refine dy ?_
 refine wn hK2 ?_
 refine aO ?_
 try simp only [xt]
 refine bR (bC rfl (gD rfl)) ?_
 exact ⟨rfl, S4.gr.below⟩
theorem JQ (F : Fz) (w : World) (v : Value) (b : Nat) (q : Wr) (r : Wr) (hs : Sat w F) (hv : WrV F v q) (hr : WrP F b r) :
    Calls Tryz.prog 116 #[v, .pointer (some ⟨b, 0, none⟩)] w (cY w (.bool (cT q r))) := by
 obtain ⟨x0, x1, x2, x3, x4, x5, rfl, h0, h1, h3⟩ := hv
 obtain ⟨z0, z1, z2, z3, z4, z5, c0, c1, c2, c3, k0, k1, k3⟩ := hr
 have S := St.start hs
 go_enter Tryz.func116, Tryz.ntmps116
 refine sk fun K1 hK1 => ?_
 refine aZ S (v := fun n => .pointer (aA n 0)) rfl (bW (v := (.agg #[(.slice x0 q.name.length x1), (.slice x2 q.key.length x3), (.bool q.gone), (.slice x4 q.value.length x5)])) rfl) (fun n2 w3 S4 => ?_)
 refine dy ?_
 refine wn hK1 ?_
 refine sk fun K5 hK5 => ?_
 refine dR S4 0 Tryz.underlying39 (bI) ?_
 refine dr _ (aE rfl (cU Tryz.underlying39 rfl (bI) (eL (St.fz S4 c0) (St.fz S4 c1) (St.fz S4 c2) (St.fz S4 c3)))) ?_
 simp only [pq]
 refine aL (v := (.bool (cT q r))) S4 rfl (fn2 (GL _ _)) (oA _ _ _ _ _ _ (S4).sat ⟨_, _, _, _, _, _, rfl, h0, h1, h3⟩ ⟨_, _, _, _, _, _, rfl, k0, k1, k3⟩) (fun w6 S7 => ?_)
 refine dy ?_
 refine wn hK5 ?_
 refine aO ?_
 try simp only [xt]
 refine bR (bC rfl (gD rfl)) ?_
 exact ⟨rfl, S7.gr.below⟩
theorem HN (F : Fz) (w : World) (v : Value) (b : Nat) (l : List Wr) (r : Wr) (hs : Sat w F) (hv : Wrs F v l) (hr : WrP F b r) (hl : l.length ≤ 1000000) :
    Calls Tryz.prog 115 #[v, .func (.func 116) #[] #[.pointer (some ⟨b, 0, none⟩)]] w (cY w (.int .i64 (lG l (fun q : Wr => (cT q r))))) := by
 obtain ⟨a, c, rfl, hc1, hc2⟩ := Sl.shape hv
 unfold maxLen at hc2
 have S := St.start hs
 go_enter Tryz.func115, Tryz.ntmps115
 refine sk fun K1 hK1 => ?_
 refine dy ?_
 refine wn hK1 ?_
 refine aF fun K2 hK2 => ?_
 refine sk fun K3 hK3 => ?_
 refine aC ?_
 refine wn hK3 ?_
 refine aM ?_
 refine aW (fun mm aa w5 => ∃ (k : Nat) (u4 : Nat → Value), mm = l.length - k ∧ u4 = dY aa ∧ aa = ⟨([(.slice a l.length c), (.func (.func 116) #[] #[(pP b 0)]), undef, undef, (u4 4), (u4 5), (.slice a l.length c), (nI l.length), (nI k)] ++ (usF u4 9 10 [])).toArray, []⟩ ∧ St w F w5 F [] [] ∧ (k ≤ l.length) ∧ (∀ (i : Nat) q, i < k → l[i]? = some q → (fun q : Wr => (cT q r)) q = false)) _ ⟨0, _, rfl, rfl, rfl, S, (by omega), (fun i q hi => absurd hi (by omega))⟩ ?_
 rintro m6 a7 w8 ⟨k, u4, rfl, -, hfr, S9, hk, hbad⟩ c9 a9
 simp only [uzF, Nat.reduceAdd] at hfr; subst hfr
 refine sk fun d0 a1 => ?_
 by_cases hc9 : k < l.length
 refine fA ?_
 refine wn a1 ?_
 refine aF fun d1 b0 => ?_
 refine aK ?_
 refine aI ?_
 refine b0 _ _ ?_
 refine aF fun d2 b1 => ?_
 refine aM ?_
 refine sk fun d3 b2 => ?_
 refine aC ?_
 refine wn b2 ?_
 refine aF fun d4 b3 => ?_
 obtain ⟨p, hp⟩ : ∃ p, l[k]? = some p := ⟨l[k], List.getElem?_eq_getElem hc9⟩
 obtain ⟨b9, c0, b4, a2, a3, a4, a5, a6, a8, c1, c2, c3, c4, c5, c6, c7⟩ := Wrs.get hv hp
 refine aB ?_
 refine aC ?_
 refine dr (pP b9 (c0 + k * 4)) (bK (i := k) (sz := 4) Tryz.underlying40 (eT _) rfl b4 rfl (by omega) rfl) ?_
 refine dr _ (aE rfl (cU Tryz.underlying39 rfl (bI) (eL (St.fz S9 c1) (St.fz S9 c2) (St.fz S9 c3) (St.fz S9 c4)))) ?_
 refine aL (v := (.bool ((fun q : Wr => (cT q r)) p))) S9 rfl (uE (fs := #[]) (cs := #[(pP b 0)]) (vs := #[(.agg #[(.slice a2 p.name.length a3), (.slice a4 p.key.length a5), (.bool p.gone), (.slice a6 p.value.length a8)]), (pP b 0)]) rfl (CY (fs := #[]) (cs := #[(pP b 0)]) (xs := #[(.agg #[(.slice a2 p.name.length a3), (.slice a4 p.key.length a5), (.bool p.gone), (.slice a6 p.value.length a8)])]) (kX rfl) (by simp)) (Ag _ _)) (JQ _ _ _ b p r (S9).sat ⟨_, _, _, _, _, _, rfl, c5, c6, c7⟩ hr) (fun d5 b7 => ?_)
 refine wlK b3 ?_
 refine wp_cond_split rfl (fun a0 => ?_) (fun a0 => ?_)
 refine sk fun d6 b5 => ?_
 refine aC ?_
 refine wn b5 ?_
 refine aO ?_
 try simp only [xt]
 refine bR (bC rfl (gD rfl)) ?_
 exact ⟨by rw [sN hp a0 hbad], b7.gr.below⟩
 refine aI ?_
 refine b1 _ _ ?_
 refine aB ?_
 refine cD (k + 1) ?_
 refine dx ?_
 refine aH ?_
 exact a9 _ _ _ (by omega) ⟨(k + 1), _, rfl, rfl, rfl, b7, (by omega), (fun i q hi hq => by rcases Nat.lt_succ_iff_lt_or_eq.1 hi with h | rfl; exact hbad i q h hq; (rw [hp] at hq; cases hq; exact a0))⟩
 refine eM ?_
 simp only [pq]
 refine wn a1 ?_
 refine aF fun d7 c8 => ?_
 refine aG ?_
 refine cS ?_
 refine hK2 _ _ ?_
 refine sk fun d8 b6 => ?_
 refine dy ?_
 refine wn b6 ?_
 refine aO ?_
 try simp only [xt]
 refine bR (bC rfl (gD rfl)) ?_
 exact ⟨by rw [qC (fun i q hi hq => hbad i q (by omega) hq)], S9.gr.below⟩
theorem mJ {P : Program} {ρ : Operand → Value} {w : World} {d : Option Tmp} {t : TypeId} {pos : String} {after : Array Edge} {guard : Option (Nat × Bool)} {k : FuncId} {x : Operand} {v : Value} (hx : ρ x = v) : (execOp ρ ⟨d, .makeFunc (.func k) #[] #[x], t, pos, after, guard⟩).run P w = .ok (.value (.func (.func k) #[] #[v])) w := by
 subst hx
 simp [execOp, Instr.makeFunc]
theorem NO (r : Wr) : (fZ [] [r]).1 = wrE r := by
 unfold fZ
 rw [if_neg (by simp)]
 by_cases h : wrE r = 0
 ·unfold dH
  rw [if_neg (by simp [h])]
  cases hw : eH [] r with
  | none =>
   have := (oM (m := 0) (ForestOk.nil 0) (nZ.1 h) (by omega) hw).1
   simp at this
  | some g => exact h.symm
 ·rw [qZ h]
def TxV (F : Fz) (u : Value) (t : Tx) : Prop := ∃ x0 y0 x1 y1, u = .agg #[.int .i64 t.start, .slice x0 t.reads.length y0, .slice x1 t.writes.length y1] ∧ Rds F (.slice x0 t.reads.length y0) t.reads ∧ Wrs F (.slice x1 t.writes.length y1) t.writes
theorem TxV.mono {F F' : Fz} {u : Value} {t : Tx} (h : TxV F u t) (hl : Le F F') : TxV F' u t := by
 obtain ⟨x0, y0, x1, y1, rfl, h0, h1⟩ := h
 exact ⟨x0, y0, x1, y1, rfl, h0.mono hl, h1.mono hl⟩
def mY (l : List Rd) : Nat → Nat → Int
  | 0, _ => 0
  | n + 1, k => match l[k]? with
    | none => 0
    | some r => if rdE r ≠ 0 then rdE r else if (l.take k).any (fun q => decide (q = r)) = true then 3 else mY l n (k + 1)
def sO (l : List Wr) : Nat → Nat → Int
  | 0, _ => 0
  | n + 1, k => match l[k]? with
    | none => 0
    | some r => if wrE r ≠ 0 then wrE r else if (l.take k).any (fun q => cT q r) = true then 3 else sO l n (k + 1)
def txE (t : Tx) : Int := if t.start < 0 ∨ 1048576 < t.start then 2 else if 20 < t.reads.length ∨ 10 < t.writes.length then 1 else if mY t.reads t.reads.length 0 ≠ 0 then mY t.reads t.reads.length 0 else sO t.writes t.writes.length 0
theorem BV {l : List Rd} {k : Nat} {r : Rd} (hp : l[k]? = some r) : mY l (l.length - k) k = if rdE r ≠ 0 then rdE r else if (l.take k).any (fun q => decide (q = r)) = true then 3 else mY l (l.length - (k + 1)) (k + 1) := by
 obtain ⟨hk, _⟩ := List.getElem?_eq_some_iff.1 hp
 rw [show l.length - k = (l.length - (k + 1)) + 1 from by omega]
 simp only [mY, hp]
theorem RS {l : List Rd} {k : Nat} (hk : l.length ≤ k) : mY l (l.length - k) k = 0 := by rw [show l.length - k = 0 from by omega]; rfl
theorem BW {l : List Wr} {k : Nat} {r : Wr} (hp : l[k]? = some r) : sO l (l.length - k) k = if wrE r ≠ 0 then wrE r else if (l.take k).any (fun q => cT q r) = true then 3 else sO l (l.length - (k + 1)) (k + 1) := by
 obtain ⟨hk, _⟩ := List.getElem?_eq_some_iff.1 hp
 rw [show l.length - k = (l.length - (k + 1)) + 1 from by omega]
 simp only [sO, hp]
theorem RT {l : List Wr} {k : Nat} (hk : l.length ≤ k) : sO l (l.length - k) k = 0 := by rw [show l.length - k = 0 from by omega]; rfl
theorem uG (F : Fz) (w : World) (v : Value) (r : Wr) (hs : Sat w F) (hv : WrV F v r) (hb : r.name.length ≤ 100000 ∧ r.key.length ≤ 100000 ∧ r.value.length ≤ 100000) :
    Calls Tryz.prog 112 #[v] w (cY w (.int .i64 (wrE r))) := by
 obtain ⟨x0, x1, x2, x3, x4, x5, rfl, h0, h1, h3⟩ := hv
 have S := St.start hs
 go_enter Tryz.func112, Tryz.ntmps112
 refine sk fun K1 hK1 => ?_
 refine aZ S (v := fun n => .pointer (aA n 0)) rfl (bW (v := (.agg #[(.slice x0 r.name.length x1), (.slice x2 r.key.length x3), (.bool r.gone), (.slice x4 r.value.length x5)])) rfl) (fun n2 w3 S4 => ?_)
 refine dy ?_
 refine wn hK1 ?_
 refine sk fun K5 hK5 => ?_
 refine dR S4 0 Tryz.underlying39 (bI) ?_
 refine aZ S4 (v := fun n => .slice (aA n 0) 1 1) rfl (bS (ps := #[(0, (.agg #[(.slice x0 r.name.length x1), (.slice x2 r.key.length x3), (.bool r.gone), (.slice x4 r.value.length x5)]))]) (cells := #[(.slice x0 r.name.length x1), (.slice x2 r.key.length x3), (.bool r.gone), (.slice x4 r.value.length x5)]) (E := 39) (cG rfl) (fun w => by kernel_rfl)) (fun n6 w7 S8 => ?_)
 simp only [pq]
 obtain ⟨S9, a0, a1⟩ := St.freezeBlk S8 (i := 0) rfl
 have a3 : Wrs _ (.slice (some ⟨n6, 0, none⟩) 1 1) [r] := fS (R := WrC) (l := [r]) (el := [[(.slice x0 r.name.length x1), (.slice x2 r.key.length x3), (.bool r.gone), (.slice x4 r.value.length x5)]]) a1 rfl ⟨⟨_, _, _, _, rfl, (h0.mono a0), (h1.mono a0), rfl, (h3.mono a0)⟩, trivial⟩ (by simp) (by unfold maxLen; simp)
 generalize addF F w7 n6 = a8 at *
 refine aY S9 rfl (fn2 (xP _ _)) (uU _ _ _ _ [] [r] (S9).sat (Sl.nil _ _ _) a3 (ForestOk.nil 60) (fun q hq => by rw [List.mem_singleton.1 hq]; exact hb)) ?_
 intro a9 b0 b1 a4 a5 a6
 obtain ⟨_, rfl, a7⟩ := a6
 obtain ⟨b2, b3, rfl, _⟩ := Sl.shape a7
 refine aC ?_
 refine wn hK5 ?_
 refine sk fun b4 a2 => ?_
 refine aC ?_
 refine wn a2 ?_
 refine aO ?_
 try simp only [xt]
 refine bodyPost_ret (v := (.int .i64 (fZ [] [r]).1)) ?_ rfl ?_
 exact bC rfl rfl
 exact ⟨by rw [NO], a4.gr.below⟩
theorem mC (F : Fz) (w : World) (v : Value) (t : Tx) (hs : Sat w F) (hv : TxV F v t) (hbw : ∀ r ∈ t.writes, r.name.length ≤ 100000 ∧ r.key.length ≤ 100000 ∧ r.value.length ≤ 100000) :
    Calls Tryz.prog 111 #[v] w (cY w (.int .i64 (txE t))) := by
 obtain ⟨x0, y0, x1, y1, rfl, h0, h1⟩ := hv
 obtain ⟨_, _, e0, q0, q1⟩ := Sl.shape h0
 obtain ⟨_, _, e1, q2, q3⟩ := Sl.shape h1
 injection e0 with _ _ e0
 injection e1 with _ _ e1
 subst e0 e1
 unfold maxLen at q1 q3
 have S := St.start hs
 go_enter Tryz.func111, Tryz.ntmps111
 refine sk fun K1 hK1 => ?_
 refine aZ S (v := fun n => .pointer (aA n 0)) rfl (bW (v := (.agg #[(.int .i64 t.start), (.slice x0 t.reads.length y0), (.slice x1 t.writes.length y1)])) rfl) (fun n2 w3 S4 => ?_)
 refine dy ?_
 refine wn hK1 ?_
 refine aF fun K5 hK5 => ?_
 refine sk fun K6 hK6 => ?_
 refine aC ?_
 by_cases h8 : t.start < (0 : Int)
 refine fA ?_
 refine aC ?_
 refine wn hK6 ?_
 refine aK ?_
 refine sk fun K7 hK7 => ?_
 refine dy ?_
 refine wn hK7 ?_
 refine aO ?_
 try simp only [xt]
 refine bR (bC rfl (gD rfl)) ?_
 exact ⟨by unfold txE; rw [if_pos (by omega)], S4.gr.below⟩
 refine eM ?_
 refine aC ?_
 by_cases h9 : (1048576 : Int) < t.start
 refine pR ?_
 refine dp ?_
 refine wn hK6 ?_
 refine aK ?_
 refine sk fun K8 hK8 => ?_
 refine dy ?_
 simp only [pq]
 refine wn hK8 ?_
 refine aO ?_
 try simp only [xt]
 refine bR (bC rfl (gD rfl)) ?_
 exact ⟨by unfold txE; rw [if_pos (by omega)], S4.gr.below⟩
 refine lF ?_
 refine dp ?_
 refine wn hK6 ?_
 refine aG ?_
 refine aI ?_
 refine hK5 _ _ ?_
 refine aF fun K9 hK9 => ?_
 refine sk fun m3 a7 => ?_
 refine aC ?_
 by_cases i0 : 20 < t.reads.length
 refine pR ?_
 refine aC ?_
 refine wn a7 ?_
 refine aK ?_
 refine sk fun m4 d3 => ?_
 refine dy ?_
 refine wn d3 ?_
 refine aO ?_
 try simp only [xt]
 refine bR (bC rfl (gD rfl)) ?_
 exact ⟨by unfold txE; rw [if_neg (by omega), if_pos (by omega)], S4.gr.below⟩
 refine lF ?_
 refine aC ?_
 by_cases i1 : 10 < t.writes.length
 refine pR ?_
 refine dp ?_
 refine wn a7 ?_
 refine aK ?_
 refine sk fun m5 d4 => ?_
 refine dy ?_
 simp only [pq]
 refine wn d4 ?_
 refine aO ?_
 try simp only [xt]
 refine bR (bC rfl (gD rfl)) ?_
 exact ⟨by unfold txE; rw [if_neg (by omega), if_pos (by omega)], S4.gr.below⟩
 refine lF ?_
 refine dp ?_
 refine wn a7 ?_
 refine aG ?_
 refine aI ?_
 refine hK9 _ _ ?_
 refine aF fun m6 d5 => ?_
 refine sk fun m7 d6 => ?_
 refine aC ?_
 refine wn d6 ?_
 refine aM ?_
 refine aW (fun mm aa i2 => ∃ (k : Nat) (b2 : Fz) (b3 : Nat → Value), mm = t.reads.length - k ∧ b3 = dY aa ∧ aa = ⟨([(.agg #[(.int .i64 t.start), (.slice x0 t.reads.length y0), (.slice x1 t.writes.length y1)]), (pP n2 0)] ++ (usF b3 2 4 ([undef, undef, undef, (pP n2 0), (.int .i64 t.start), bF, bF, (pP n2 0), (.int .i64 t.start), bF, bF, (pP n2 1), (.slice x0 t.reads.length y0), (nI t.reads.length), bF, bF, (pP n2 2), (.slice x1 t.writes.length y1), (nI t.writes.length), bF, bF, (pP n2 1), (.slice x0 t.reads.length y0), (nI t.reads.length), (nI k)] ++ (usF b3 31 16 (udF 20 []))))).toArray, []⟩ ∧ St w F i2 b2 [⟨n2, [(.int .i64 t.start), (.slice x0 t.reads.length y0), (.slice x1 t.writes.length y1)], 141⟩] [] ∧ Le F b2 ∧ (k ≤ t.reads.length) ∧ (mY t.reads t.reads.length 0 = mY t.reads (t.reads.length - k) k)) _ ⟨0, F, _, rfl, rfl, rfl, S4, Le.refl _, (by omega), rfl⟩ ?_
 rintro m8 m9 n0 ⟨k, b2, b3, rfl, -, hfr, b4, a2, hk, hTr⟩ n1 d7
 simp only [uzF, Nat.reduceAdd] at hfr; subst hfr
 refine sk fun n3 b6 => ?_
 by_cases d8 : k < t.reads.length
 refine fA ?_
 refine wn b6 ?_
 refine aF fun n4 d9 => ?_
 refine aK ?_
 refine aI ?_
 refine d9 _ _ ?_
 refine aF fun n5 e2 => ?_
 refine aM ?_
 refine aF fun n6 e3 => ?_
 obtain ⟨p, hp⟩ : ∃ p, t.reads[k]? = some p := ⟨t.reads[k], List.getElem?_eq_getElem d8⟩
 obtain ⟨i3, i4, e4, i5, i6, i7, i8, i9, j0, j1, j2, j3, j4, g6, g7, g8⟩ := Rds.get (h0.mono a2) hp
 refine aB ?_
 refine dx ?_
 refine dr (pP i3 (i4 + k * 4)) (bK (i := k) (sz := 4) Tryz.underlying139 (jE _) rfl e4 rfl (by omega) rfl) ?_
 refine dr _ (aE rfl (cU Tryz.underlying179 rfl (dE) (eL (St.fz b4 j1) (St.fz b4 j2) (St.fz b4 j3) (St.fz b4 j4)))) ?_
 simp only [pq]
 refine sA b4 (rZ _) fun d0 n7 j5 => ?_
 refine dy ?_
 refine sW 0 j5 (dE) fun n8 e5 => ?_
 simp only [pq]
 refine wlK e3 ?_
 refine aF fun n9 e6 => ?_
 refine sk fun o0 e7 => ?_
 refine dR e5 0 Tryz.underlying179 (dE) ?_
 refine aL (v := (.int .i64 (rdE p))) e5 rfl (fn1 (PS _ _)) (BS _ _ _ p (e5).sat ⟨_, _, _, _, _, _, rfl, g6, g7, g8⟩) (fun j6 g9 => ?_)
 refine dy ?_
 refine wn e7 ?_
 refine sk fun o1 b7 => ?_
 refine dx ?_
 simp only [pq]
 by_cases e8 : (rdE p) = (0 : Int)
 refine lQ ?_
 refine wn b7 ?_
 refine aG ?_
 refine aI ?_
 refine e6 _ _ ?_
 refine aF fun o2 e9 => ?_
 obtain ⟨h2, a3, a5⟩ := St.freezeBlk g9 (i := 0) rfl
 have j7 : RdP _ d0 p := ⟨_, _, _, _, _, _, a5 0 _ rfl, a5 1 _ rfl, a5 2 _ rfl, a5 3 _ rfl, (g6.mono a3), (g7.mono a3), (g8.mono a3)⟩
 generalize addF b2 j6 d0 = j8 at *
 refine aB ?_
 refine aC ?_
 have f0 := Sl.takeN (m := k) (h0.mono (a2.trans a3)) (by omega)
 have f0 : Rds _ (.slice x0 k y0) (t.reads.take k) := f0
 refine dr (.slice x0 k y0) (bA (l := 0) (h := k) (sz := 4) Tryz.underlying139 rfl (jE _) (.inl ⟨rfl, rfl⟩) (.inr ⟨_, rfl, rfl⟩) (by omega) (by omega) (fE)) ?_
 refine dr (.func (.func 135) #[] #[(pP d0 0)]) (mJ rfl) ?_
 refine aL (v := (.bool ((t.reads.take k).any (fun q => decide (q = p))))) h2 rfl (fn2 (GM _ _)) (zA _ _ _ d0 (t.reads.take k) p (h2).sat f0 j7 (by rw [List.length_take]; omega)) (fun o3 h3 => ?_)
 refine wlK e9 ?_
 refine wp_cond_split rfl (fun a8 => ?_) (fun a8 => ?_)
 refine sk fun o4 f1 => ?_
 refine dy ?_
 simp only [pq]
 refine wn f1 ?_
 refine aO ?_
 try simp only [xt]
 refine bR (bC rfl (gD rfl)) ?_
 have hr : mY t.reads t.reads.length 0 = 3 := by rw [hTr, BV hp, if_neg (by omega), if_pos a8]
 exact ⟨by unfold txE; rw [if_neg (by omega), if_neg (by omega), if_pos (by omega), hr], h3.gr.below⟩
 refine aI ?_
 refine e2 _ _ ?_
 refine aB ?_
 refine cD (k + 1) ?_
 refine dx ?_
 refine aH ?_
 exact d7 _ _ _ (by omega) ⟨(k + 1), j8, _, rfl, rfl, rfl, h3, (a2.trans a3), (by omega), (by rw [hTr, BV hp, if_neg (by omega), if_neg (by rw [a8]; simp)])⟩
 refine mS ?_
 simp only [pq]
 refine wn b7 ?_
 refine aK ?_
 refine sk fun o5 f2 => ?_
 refine aC ?_
 refine wn f2 ?_
 refine aO ?_
 try simp only [xt]
 refine bR (bC rfl (gD rfl)) ?_
 have hr : mY t.reads t.reads.length 0 = rdE p := by rw [hTr, BV hp, if_pos e8]
 exact ⟨by unfold txE; rw [if_neg (by omega), if_neg (by omega), if_pos (by omega), hr], g9.gr.below⟩
 refine eM ?_
 simp only [pq]
 refine wn b6 ?_
 refine aF fun o6 j9 => ?_
 refine aG ?_
 refine cS ?_
 refine d5 _ _ ?_
 refine aF fun o7 f3 => ?_
 refine aF fun o8 f4 => ?_
 have hr0 : mY t.reads t.reads.length 0 = 0 := by rw [hTr, RS (by omega)]
 refine aB ?_
 refine aC ?_
 refine wlK f4 ?_
 refine aM ?_
 refine aW (fun mm aa k0 => ∃ (j : Nat) (d1 : Fz) (b9 : Nat → Value), mm = t.writes.length - j ∧ b9 = dY aa ∧ aa = ⟨([(.agg #[(.int .i64 t.start), (.slice x0 t.reads.length y0), (.slice x1 t.writes.length y1)]), (pP n2 0), (b9 2)] ++ (usF b3 3 3 (usF b9 6 3 ([(pP n2 0), (.int .i64 t.start), bF, bF, (pP n2 0), (.int .i64 t.start), bF, bF, (pP n2 1), (.slice x0 t.reads.length y0), (nI t.reads.length), bF, bF, (pP n2 2), (.slice x1 t.writes.length y1), (nI t.writes.length), bF, bF, (pP n2 1), (.slice x0 t.reads.length y0), (nI t.reads.length), (nI k), bF] ++ (usF b3 32 15 ([(pP n2 2), (.slice x1 t.writes.length y1), (nI t.writes.length), (nI j)] ++ (usF b9 51 16 []))))))).toArray, []⟩ ∧ St w F k0 d1 [⟨n2, [(.int .i64 t.start), (.slice x0 t.reads.length y0), (.slice x1 t.writes.length y1)], 141⟩] [] ∧ Le b2 d1 ∧ (j ≤ t.writes.length) ∧ (sO t.writes t.writes.length 0 = sO t.writes (t.writes.length - j) j)) _ ⟨0, b2, _, rfl, rfl, rfl, b4, Le.refl _, (by omega), rfl⟩ ?_
 rintro o9 p0 p1 ⟨j, d1, b9, rfl, -, hfr, b5, a9, hj, hTw⟩ p2 f5
 simp only [uzF, Nat.reduceAdd] at hfr; subst hfr
 refine sk fun p3 c0 => ?_
 by_cases f6 : j < t.writes.length
 refine fA ?_
 refine wn c0 ?_
 refine aF fun p4 f7 => ?_
 refine aK ?_
 refine aI ?_
 refine f7 _ _ ?_
 refine aF fun p5 f8 => ?_
 refine aM ?_
 refine aF fun p6 f9 => ?_
 obtain ⟨p, hp⟩ : ∃ p, t.writes[j]? = some p := ⟨t.writes[j], List.getElem?_eq_getElem f6⟩
 obtain ⟨k1, k2, g0, k3, k4, k5, k6, k7, k8, k9, l0, l1, l2, h4, h5, h6⟩ := Wrs.get (h1.mono (a2.trans a9)) hp
 refine aB ?_
 refine dx ?_
 refine dr (pP k1 (k2 + j * 4)) (bK (i := j) (sz := 4) Tryz.underlying40 (eT _) rfl g0 rfl (by omega) rfl) ?_
 refine dr _ (aE rfl (cU Tryz.underlying39 rfl (bI) (eL (St.fz b5 k9) (St.fz b5 l0) (St.fz b5 l1) (St.fz b5 l2)))) ?_
 simp only [pq]
 refine sA b5 (kC _) fun d2 p7 g1 => ?_
 refine dy ?_
 refine sW 0 g1 (bI) fun l3 b0 => ?_
 simp only [pq]
 refine wlK f9 ?_
 refine aF fun l4 c1 => ?_
 refine sk fun l5 c2 => ?_
 refine dR b0 0 Tryz.underlying39 (bI) ?_
 refine aL (v := (.int .i64 (wrE p))) b0 rfl (fn1 (PM _ _)) (uG _ _ _ p (b0).sat ⟨_, _, _, _, _, _, rfl, h4, h5, h6⟩ (hbw p (List.mem_of_getElem? hp))) (fun g2 c3 => ?_)
 refine dy ?_
 refine wn c2 ?_
 refine sk fun l6 a6 => ?_
 refine dx ?_
 simp only [pq]
 by_cases g3 : (wrE p) = (0 : Int)
 refine lQ ?_
 refine wn a6 ?_
 refine aG ?_
 refine aI ?_
 refine c1 _ _ ?_
 refine aF fun l7 c4 => ?_
 obtain ⟨c5, a0, a1⟩ := St.freezeBlk c3 (i := 0) rfl
 have g4 : WrP _ d2 p := ⟨_, _, _, _, _, _, a1 0 _ rfl, a1 1 _ rfl, a1 2 _ rfl, a1 3 _ rfl, (h4.mono a0), (h5.mono a0), (h6.mono a0)⟩
 generalize addF d1 g2 d2 = g5 at *
 refine aB ?_
 refine aC ?_
 have b1 := Sl.takeN (m := j) (h1.mono ((a2.trans a9).trans a0)) (by omega)
 have b1 : Wrs _ (.slice x1 j y1) (t.writes.take j) := b1
 refine dr (.slice x1 j y1) (bA (l := 0) (h := j) (sz := 4) Tryz.underlying40 rfl (eT _) (.inl ⟨rfl, rfl⟩) (.inr ⟨_, rfl, rfl⟩) (by omega) (by omega) (fE)) ?_
 refine dr (.func (.func 137) #[] #[(pP d2 0)]) (mJ rfl) ?_
 refine aL (v := (.bool ((t.writes.take j).any (fun q => cT q p)))) c5 rfl (fn2 (An _ _)) (zB _ _ _ d2 (t.writes.take j) p (c5).sat b1 g4 (by rw [List.length_take]; omega)) (fun l8 c6 => ?_)
 refine wlK c4 ?_
 refine wp_cond_split rfl (fun a4 => ?_) (fun a4 => ?_)
 refine sk fun l9 c7 => ?_
 refine dy ?_
 simp only [pq]
 refine wn c7 ?_
 refine aO ?_
 try simp only [xt]
 refine bR (bC rfl (gD rfl)) ?_
 exact ⟨by unfold txE; rw [if_neg (by omega), if_neg (by omega), if_neg (by omega), hTw, BW hp, if_neg (by omega), if_pos a4], c6.gr.below⟩
 refine aI ?_
 refine f8 _ _ ?_
 refine aB ?_
 refine cD (j + 1) ?_
 refine dx ?_
 refine aH ?_
 exact f5 _ _ _ (by omega) ⟨(j + 1), g5, _, rfl, rfl, rfl, c6, (a9.trans a0), (by omega), (by rw [hTw, BW hp, if_neg (by omega), if_neg (by rw [a4]; simp)])⟩
 refine mS ?_
 simp only [pq]
 refine wn a6 ?_
 refine aK ?_
 refine sk fun m0 c8 => ?_
 refine aC ?_
 refine wn c8 ?_
 refine aO ?_
 try simp only [xt]
 refine bR (bC rfl (gD rfl)) ?_
 exact ⟨by unfold txE; rw [if_neg (by omega), if_neg (by omega), if_neg (by omega), hTw, BW hp, if_pos g3], c3.gr.below⟩
 refine eM ?_
 simp only [pq]
 refine wn c0 ?_
 refine aF fun m1 h7 => ?_
 refine aG ?_
 refine cS ?_
 refine f3 _ _ ?_
 refine sk fun m2 c9 => ?_
 refine dy ?_
 refine wn c9 ?_
 refine aO ?_
 try simp only [xt]
 refine bR (bC rfl (gD rfl)) ?_
 exact ⟨by unfold txE; rw [if_neg (by omega), if_neg (by omega), if_neg (by omega), hTw, RT (by omega)], b5.gr.below⟩
theorem BX {r : Rd} : rdE r = 0 ↔ RdOk r := by
 unfold rdE
 by_cases h1 : gX r.name.length = 0
 rw [if_neg (by simp [h1])]
 have hn := lS.1 h1
 by_cases h2 : cF r.key.length = 0
 rw [if_neg (by simp [h2])]
 have hk := iL.1 h2
 cases hg : r.wide with
 | true =>
  simp only [if_true]
  exact ⟨fun h => ⟨hn, hk, by rw [hg]; simpa using iL.1 h⟩, fun h => iL.2 (by have := h.last; rw [hg] at this; simpa using this)⟩
 | false =>
  simp only [Bool.false_eq_true, if_false]
  by_cases h3 : 0 < r.last.length
  rw [if_pos h3]
  refine ⟨fun h => by omega, fun h => ?_⟩
  have := h.last
  rw [hg] at this
  simp at this
  rw [this] at h3; simp at h3
  rw [if_neg h3]
  exact ⟨fun _ => ⟨hn, hk, by rw [hg]; simpa using List.eq_nil_of_length_eq_zero (by omega)⟩, fun _ => rfl⟩
 rw [if_pos h2]
 exact ⟨fun h => absurd h h2, fun h => absurd (iL.2 h.key) h2⟩
 rw [if_pos h1]
 exact ⟨fun h => absurd h h1, fun h => absurd (lS.2 h.name) h1⟩
theorem JR {l : List Rd} : ∀ n k, n + k = l.length → (mY l n k = 0 ↔ ∀ (i : Nat) r, k ≤ i → l[i]? = some r → rdE r = 0 ∧ (l.take i).any (fun q => decide (q = r)) = false)
  | 0, k, h => ⟨fun _ i r hi hr => by have := (List.getElem?_eq_some_iff.1 hr).1; omega, fun _ => rfl⟩
  | n + 1, k, h => by
    have hk : k < l.length := by omega
    obtain ⟨x, hp⟩ : ∃ x, l[k]? = some x := ⟨_, List.getElem?_eq_getElem hk⟩
    simp only [mY, hp]
    by_cases h1 : rdE x = 0
    · rw [if_neg (by simpa using h1)]
      by_cases h2 : (l.take k).any (fun q => decide (q = x)) = true
      · rw [if_pos h2]
        refine ⟨fun h => by omega, fun h => ?_⟩
        have := (h k _ (Nat.le_refl _) hp).2
        rw [h2] at this
        cases this
      · rw [if_neg h2, JR n (k + 1) (by omega)]
        refine ⟨fun h i r hi hr => ?_, fun h i r hi hr => h i r (by omega) hr⟩
        rcases Nat.lt_or_eq_of_le hi with hi | rfl
        · exact h i r hi hr
        · rw [hp] at hr; cases hr; exact ⟨h1, Bool.eq_false_iff.2 h2⟩
    · rw [if_pos h1]
      exact ⟨fun h => absurd h h1, fun h => absurd (h k _ (Nat.le_refl _) hp).1 h1⟩
theorem JS {l : List Wr} : ∀ n k, n + k = l.length → (sO l n k = 0 ↔ ∀ (i : Nat) r, k ≤ i → l[i]? = some r → wrE r = 0 ∧ (l.take i).any (fun q => cT q r) = false)
  | 0, k, h => ⟨fun _ i r hi hr => by have := (List.getElem?_eq_some_iff.1 hr).1; omega, fun _ => rfl⟩
  | n + 1, k, h => by
    have hk : k < l.length := by omega
    obtain ⟨x, hp⟩ : ∃ x, l[k]? = some x := ⟨_, List.getElem?_eq_getElem hk⟩
    simp only [sO, hp]
    by_cases h1 : wrE x = 0
    · rw [if_neg (by simpa using h1)]
      by_cases h2 : (l.take k).any (fun q => cT q x) = true
      · rw [if_pos h2]
        refine ⟨fun h => by omega, fun h => ?_⟩
        have := (h k _ (Nat.le_refl _) hp).2
        rw [h2] at this
        cases this
      · rw [if_neg h2, JS n (k + 1) (by omega)]
        refine ⟨fun h i r hi hr => ?_, fun h i r hi hr => h i r (by omega) hr⟩
        rcases Nat.lt_or_eq_of_le hi with hi | rfl
        · exact h i r hi hr
        · rw [hp] at hr; cases hr; exact ⟨h1, Bool.eq_false_iff.2 h2⟩
    · rw [if_pos h1]
      exact ⟨fun h => absurd h h1, fun h => absurd (h k _ (Nat.le_refl _) hp).1 h1⟩
theorem sP {α : Type} {l : List α} {g : α → Bool} {i : Nat} : (l.take i).any g = false ↔ ∀ (j : Nat) q, j < i → l[j]? = some q → g q = false := by
 rw [List.any_eq_false]
 constructor
 ·intro h j q hj hq
  have := h q (List.mem_of_getElem? (show (l.take i)[j]? = some q by rw [List.getElem?_take, if_pos hj]; exact hq))
  simpa using this
 ·intro h x hx
  obtain ⟨j, hj, rfl⟩ := List.mem_iff_getElem.1 hx
  rw [List.length_take] at hj
  rw [List.getElem_take]
  simpa using h j l[j] (by omega) (List.getElem?_eq_getElem (by omega))
theorem mU {t : Tx} : txE t = 0 ↔ TxOk t := by
 unfold txE
 by_cases h1 : t.start < 0 ∨ 1048576 < t.start
 rw [if_pos h1]
 exact ⟨fun h => by omega, fun h => by have := h.start; omega⟩
 rw [if_neg h1]
 by_cases h2 : 20 < t.reads.length ∨ 10 < t.writes.length
 rw [if_pos h2]
 exact ⟨fun h => by omega, fun h => by have := h.nr; have := h.nw; omega⟩
 rw [if_neg h2]
 have kr := JR (l := t.reads) t.reads.length 0 (by omega)
 have kw := JS (l := t.writes) t.writes.length 0 (by omega)
 have er : mY t.reads t.reads.length 0 = 0 ↔ (∀ r ∈ t.reads, RdOk r) ∧ t.reads.Pairwise (· ≠ ·) := by
  rw [kr]
  constructor
  intro h
  refine ⟨fun r hr => ?_, List.pairwise_iff_getElem.2 fun i j hi hj hij e => ?_⟩
  obtain ⟨i, hi, rfl⟩ := List.mem_iff_getElem.1 hr
  exact BX.1 (h i _ (Nat.zero_le _) (List.getElem?_eq_getElem hi)).1
  have := sP.1 (h j _ (Nat.zero_le _) (List.getElem?_eq_getElem hj)).2 i _ hij (List.getElem?_eq_getElem hi)
  simp [e] at this
  rintro ⟨h, hp⟩ i r _ hr
  refine ⟨BX.2 (h r (List.mem_of_getElem? hr)), sP.2 fun j q hj hq => decide_eq_false fun e => ?_⟩
  obtain ⟨hi, rfl⟩ := List.getElem?_eq_some_iff.1 hr
  obtain ⟨hj', rfl⟩ := List.getElem?_eq_some_iff.1 hq
  exact List.pairwise_iff_getElem.1 hp j i hj' hi hj e
 have ew : sO t.writes t.writes.length 0 = 0 ↔ (∀ r ∈ t.writes, WrOk r) ∧ t.writes.Pairwise fun a b => cT a b = false := by
  rw [kw]
  constructor
  intro h
  refine ⟨fun r hr => ?_, List.pairwise_iff_getElem.2 fun i j hi hj hij => ?_⟩
  obtain ⟨i, hi, rfl⟩ := List.mem_iff_getElem.1 hr
  exact nZ.1 (h i _ (Nat.zero_le _) (List.getElem?_eq_getElem hi)).1
  exact sP.1 (h j _ (Nat.zero_le _) (List.getElem?_eq_getElem hj)).2 i _ hij (List.getElem?_eq_getElem hi)
  rintro ⟨h, hp⟩ i r _ hr
  refine ⟨nZ.2 (h r (List.mem_of_getElem? hr)), sP.2 fun j q hj hq => ?_⟩
  obtain ⟨hi, rfl⟩ := List.getElem?_eq_some_iff.1 hr
  obtain ⟨hj', rfl⟩ := List.getElem?_eq_some_iff.1 hq
  exact List.pairwise_iff_getElem.1 hp j i hj' hi hj
 by_cases h3 : mY t.reads t.reads.length 0 = 0
 rw [if_neg (by simpa using h3), ew]
 have := er.1 h3
 exact ⟨fun h => ⟨by omega, by omega, by omega, this.1, this.2, h.1, h.2⟩, fun h => ⟨h.writes, h.wdiff⟩⟩
 rw [if_pos h3]
 exact ⟨fun h => absurd h h3, fun h => absurd (er.2 ⟨h.reads, h.rdiff⟩) h3⟩
theorem RdOk.small {r : Rd} (h : RdOk r) : r.name.length ≤ 100000 ∧ r.key.length ≤ 100000 ∧ r.last.length ≤ 100000 := by
 have h1 := h.name.2; have h2 := h.key.2; have h3 := h.last
 refine ⟨by omega, by omega, ?_⟩
 split at h3
 omega
 rw [h3]; simp
theorem WrOk.small {r : Wr} (h : WrOk r) : r.name.length ≤ 100000 ∧ r.key.length ≤ 100000 ∧ r.value.length ≤ 100000 := by
 have h1 := h.name.2; have h2 := h.key2; have h3 := h.value; omega
def jI : Tx := ⟨0, [], []⟩
def oY (t : Tx) (r : Rd) : Int := if txE t ≠ 0 then txE t else if rdE r ≠ 0 then rdE r else if r ∈ t.reads then 0 else if t.reads.length = 20 then 11 else 0
def sQ (t : Tx) (r : Rd) : Tx := if oY t r ≠ 0 then jI else (gH t r).getD t
def mV (t : Tx) (r : Wr) : Int := if txE t ≠ 0 then txE t else if wrE r ≠ 0 then wrE r else if 0 ≤ lG t.writes (fun q => cT q r) then 0 else if t.writes.length = 10 then 11 else 0
def rE (t : Tx) (r : Wr) : Tx := if mV t r ≠ 0 then jI else (fD t r).getD t
theorem BY {t u : Tx} {r : Rd} (h : TxOk t) (hr : RdOk r) (e : gH t r = some u) : oY t r = 0 ∧ sQ t r = u := by
 have h1 : oY t r = 0 := by
  unfold oY; rw [if_neg (by simpa using mU.2 h), if_neg (by simpa using BX.2 hr)]
  unfold gH at e
  split at e
  ·rename_i hm; rw [if_pos hm]
  ·rename_i hm
   split at e
   ·cases e
   ·rename_i hl; rw [if_neg hm, if_neg hl]
 exact ⟨h1, by unfold sQ; rw [if_neg (by simpa using h1), e]; rfl⟩
theorem NP {t : Tx} {r : Rd} (h : TxOk t) (hr : RdOk r) (e : gH t r = none) : oY t r = 11 ∧ sQ t r = jI := by
 have h1 : oY t r = 11 := by
  unfold oY; rw [if_neg (by simpa using mU.2 h), if_neg (by simpa using BX.2 hr)]
  unfold gH at e
  split at e
  ·cases e
  ·rename_i hm
   split at e
   ·rename_i hl; rw [if_neg hm, if_pos hl]
   ·cases e
 exact ⟨h1, by unfold sQ; rw [if_pos (by rw [h1]; decide)]⟩
theorem ET {ws : List Wr} {r : Wr} : lG ws (fun q => cT q r) = match yW ws r with | some i => (i : Int) | none => -1 := rfl
theorem xT {t u : Tx} {r : Wr} (h : TxOk t) (hr : WrOk r) (e : fD t r = some u) : mV t r = 0 ∧ rE t r = u := by
 have h1 : mV t r = 0 := by
  unfold mV; rw [if_neg (by simpa using mU.2 h), if_neg (by simpa using nZ.2 hr), ET]
  unfold fD at e
  cases hi : yW t.writes r with
  | some i => rw [if_pos (by simp only; omega)]
  | none =>
   rw [hi] at e
   simp only at e
   split at e
   ·cases e
   ·rename_i hl; rw [if_neg (by simp only; omega), if_neg hl]
 exact ⟨h1, by unfold rE; rw [if_neg (by simpa using h1), e]; rfl⟩
theorem yP {t : Tx} {r : Wr} (h : TxOk t) (hr : WrOk r) (e : fD t r = none) : mV t r = 11 ∧ rE t r = jI := by
 have h1 : mV t r = 11 := by
  unfold mV; rw [if_neg (by simpa using mU.2 h), if_neg (by simpa using nZ.2 hr), ET]
  unfold fD at e
  cases hi : yW t.writes r with
  | some i => rw [hi] at e; cases e
  | none =>
   rw [hi] at e
   simp only at e
   split at e
   ·rename_i hl; rw [if_neg (by simp only; omega), if_pos hl]
   ·cases e
 exact ⟨h1, by unfold rE; rw [if_pos (by rw [h1]; decide)]⟩
theorem zU : TxOk jI := ⟨by decide, by decide, by decide, by simp [jI], by simp [jI], by simp [jI], by simp [jI]⟩
def TxE (F : Fz) (u : Value) (t : Tx) (e : Int) : Prop := ∃ v, u = .tuple #[v, .int .i64 e] ∧ TxV F v t
theorem TxV.nil (F : Fz) : TxV F (.agg #[.int .i64 0, .slice none 0 0, .slice none 0 0]) jI := ⟨none, 0, none, 0, rfl, Sl.nil _ _ _, Sl.nil _ _ _⟩
theorem RU {α : Type} {l : List α} {g : α → Bool} (h : 0 ≤ lG l g) : ∃ i : Nat, lG l g = (i : Int) ∧ i < l.length ∧ l.findIdx? g = some i := by
 unfold lG at *
 cases hf : l.findIdx? g with
 | none => rw [hf] at h; simp only at h; omega
 | some i =>
  refine ⟨i, rfl, ?_, rfl⟩
  exact (List.findIdx?_eq_some_iff_getElem.1 hf).1
theorem JT {α : Type} {l : List α} {g : α → Bool} (h : ¬ 0 ≤ lG l g) : l.findIdx? g = none := by
 unfold lG at h
 cases hf : l.findIdx? g with
 | none => rfl
 | some i => rw [hf] at h; simp only at h; omega
theorem yQ (F : Fz) (w : World) (v : Value) (t : Tx) (hs : Sat w F) (hv : TxV F v t) (ht : TxOk t) :
    Calls Tryz.prog 113 #[v] w (QC w F 179 39 t) := by
 obtain ⟨x0, y0, x1, y1, rfl, h0, h1⟩ := hv
 obtain ⟨_, _, e0, q0, q1⟩ := Sl.shape h0
 obtain ⟨_, _, e1, q2, q3⟩ := Sl.shape h1
 injection e0 with _ _ e0
 injection e1 with _ _ e1
 subst e0 e1
 unfold maxLen at q1 q3
 obtain ⟨d7, b4, b5, b6, b7⟩ := info_parts IX
 have hnr := ht.nr
 have hwl : t.writes.length ≤ 100000 := Nat.le_trans ht.nw (by decide)
 have hws := fun r hr => (ht.writes r hr).small
 have S := St.start hs
 go_enter Tryz.func113, Tryz.ntmps113
 refine sk fun K1 hK1 => ?_
 refine aZ S (v := fun n => .pointer (aA n 0)) rfl (bW (v := (.agg #[(.int .i64 t.start), (.slice x0 t.reads.length y0), (.slice x1 t.writes.length y1)])) rfl) (fun n2 w3 S4 => ?_)
 refine sA S4 (fX _) fun n5 w6 S7 => ?_
 refine wn hK1 ?_
 refine aF fun K8 hK8 => ?_
 refine aQ F 7 [(4, .rel (MadeO w6 F 4 WrC 39 t.writes) (MadeO.stable WrC.mono _ _ _ _ _)), (5, .rel (fun u w => ∃ a0 a1, u = (.agg #[(.int .i64 t.start), Zn, (.slice a0 t.writes.length a1)]) ∧ MadeO w6 F 4 WrC 39 t.writes (.slice a0 t.writes.length a1) w) (fun u w w1 h hb => by obtain ⟨a, c, e, h⟩ := h; exact ⟨a, c, e, MadeO.stable WrC.mono _ _ _ _ _ _ _ _ h hb⟩)), (6, .rel (NewAt w6 [(iI 0), Zn, Zn] 141) (NewAt.stable _ _ _))] (by kernel_rfl) (by kernel_rfl) ?_
 simp only [cV]
 refine gf (kY _ _) ?_
 refine gl bU S7 1 ?_
 simp only [pq]
 refine gf (wE _ _) ?_
 refine gl vY S7 1 ?_
 simp only [pq]
 refine dJ rfl rfl (fun w9 C9 hF => bX (cP (vs := #[(.slice x1 t.writes.length y1)]) (kX rfl) rfl (PO _ _)) (NL S7.sat C9 (rL _ _ _ t.writes ((St.tells S7 C9)).sat h1 hwl hws))) (fun g3 => ?_)
 simp only [pq]
 refine dJ rfl rfl (fun w9 C9 hF_ => ?_) (fun k3 => ?_)
 obtain ⟨Fo, go, ho⟩ := hF_.getR 4 (by kernel_rfl) rfl rfl
 obtain ⟨a0, a1, rfl, _, _⟩ := ho.shape
 exact fY (aJ (eZ rfl rfl) (by kernel_rfl)) ⟨a0, a1, rfl, Fo, go, ho⟩ (Below.refl _ _)
 simp only [pq]
 refine dJ rfl rfl (fun w9 C9 _ => kI (cs := [(iI 0), Zn, Zn]) (fX _) rfl C9) (fun k4 => ?_)
 refine bN ?_
 intro k5 g4 a4
 obtain ⟨d4, rfl, b9, c0⟩ := a4.getR 6 rfl rfl
 have a5 : ∀ u ∈ [(.int .i64 0), (.slice none 0 0), (.slice none 0 0)], ∀ x, u ≠ bv x := by intro u hu x; simp only [List.mem_cons, List.not_mem_nil, or_false] at hu; rcases hu with rfl | rfl | rfl <;> (unfold bv; simp)
 obtain ⟨a0, a1, rfl, g5, d8, d9⟩ := a4.getR 5 rfl rfl
 have g6 := St.addBlkRow (hR := WrC.mono) (cs := [(.int .i64 0), (.slice none 0 0), (.slice none 0 0)]) S7 d8 d9 b9 c0 (by decide) (WrC.dropF d8.sat c0 a5)
 have e2 : Le _ _ := (d8.dropF S7.sat b9).le S7.sat
 generalize dropF g5 d4 = f8 at *
 clear a4
 simp only [cW]
 refine sW 0 g6 (aU) fun k6 g7 => ?_
 simp only [pq]
 refine wlK hK8 ?_
 refine aF fun k7 e3 => ?_
 refine sk fun k8 e4 => ?_
 refine aC ?_
 refine wn e4 ?_
 refine aM ?_
 have g8 := St.addNil g7 4 RdC RdC.mono 179 w.heap.size
 refine aW (fun mm aa g9 => ∃ (k : Nat) (v : Value) (d5 : Fz) (d6 : Nat → Value), mm = t.reads.length - k ∧ d6 = dY aa ∧ aa = ⟨([(.agg #[(.int .i64 t.start), (.slice x0 t.reads.length y0), (.slice x1 t.writes.length y1)]), (pP n2 0), (pP n5 0), (pP d4 0), undef, (d6 5), (pP n2 0), (.int .i64 t.start), (pP n2 2), (.slice x1 t.writes.length y1), g3, (.agg #[(.int .i64 t.start), Zn, (.slice a0 t.writes.length a1)]), (pP n2 1), (.slice x0 t.reads.length y0), (nI t.reads.length), (nI k)] ++ (usF d6 16 11 [undef])).toArray, []⟩ ∧ St w F g9 d5 [⟨d4, [(.int .i64 t.start), v, (.slice a0 t.writes.length a1)], 141⟩, ⟨n5, [(iI 0), Zn, Zn], 141⟩, ⟨n2, [(.int .i64 t.start), (.slice x0 t.reads.length y0), (.slice x1 t.writes.length y1)], 141⟩] [bV 4 RdC RdC.mono 179 w.heap.size v (t.reads.take k), bV 4 WrC WrC.mono 39 w.heap.size (.slice a0 t.writes.length a1) t.writes] ∧ Le f8 d5 ∧ (k ≤ t.reads.length)) _ ⟨0, Zn, f8, _, rfl, rfl, rfl, g8, Le.refl _, (by omega)⟩ ?_
 rintro k9 l0 l1 ⟨k, v, d5, d6, rfl, -, hfr, a2, c1, hk⟩ l2 e5
 simp only [uzF, Nat.reduceAdd] at hfr; subst hfr
 refine sk fun l3 c2 => ?_
 by_cases e6 : k < t.reads.length
 refine fA ?_
 refine wn c2 ?_
 refine aF fun l4 e7 => ?_
 refine aK ?_
 refine aI ?_
 refine e7 _ _ ?_
 refine aF fun l5 e8 => ?_
 refine aM ?_
 refine aF fun l6 e9 => ?_
 obtain ⟨p, hp⟩ : ∃ p, t.reads[k]? = some p := ⟨t.reads[k], List.getElem?_eq_getElem e6⟩
 obtain ⟨hb0, hb1, hb2⟩ := (ht.reads p (List.mem_of_getElem? hp)).small
 have htk : (t.reads.take k).length = k := by rw [List.length_take]; omega
 obtain ⟨h2, h3, f0, a6, a7, a8, a9, b0, b1, h4, h5, h6, h7, h8, h9, i0⟩ := Rds.get (h0.mono (e2.trans c1)) hp
 refine aB ?_
 refine dr (pP h2 (h3 + k * 4)) (bK (i := k) (sz := 4) Tryz.underlying139 (jE _) rfl f0 rfl (by omega) rfl) ?_
 refine dr _ (aE rfl (cU Tryz.underlying179 rfl (dE) (eL (St.fz a2 h4) (St.fz a2 h5) (St.fz a2 h6) (St.fz a2 h7)))) ?_
 simp only [pq]
 refine sA a2 (rZ _) fun i1 l7 i2 => ?_
 refine sW 0 i2 (dE) fun l8 b3 => ?_
 refine wlK e9 ?_
 refine aQ d5 5 [(3, .made (fun F' u => RdV F' u p)), (4, .made (fun F' u => Rds F' u [p]))] (by kernel_rfl) (by kernel_rfl) ?_
 simp only [cV]
 refine gf (sD _ _) ?_
 simp only [pq]
 refine gl BA b3 1 ?_
 refine gv _ (fun _ c3 => aE rfl (cU Tryz.underlying179 rfl (dE) (St.range (St.tells b3 c3) (i := 0) rfl 0 [(.slice a6 p.name.length a7), (.slice a8 p.key.length a9), (.bool p.wide), (.slice b0 p.last.length b1)] (eF 0 rfl)))) ?_
 simp only [pq]
 refine dJ rfl rfl (fun i3 c3 hF => bX (cP (vs := #[(.agg #[(.slice a6 p.name.length a7), (.slice a8 p.key.length a9), (.bool p.wide), (.slice b0 p.last.length b1)])]) (kX rfl) rfl (PU _ _)) (dI b3.sat c3 (ES _ _ _ p ((St.tells b3 c3)).sat ⟨_, _, _, _, _, _, rfl, h8, h9, i0⟩ hb0 hb1 hb2))) (fun l9 => ?_)
 simp only [pq]
 refine dJ rfl rfl (fun i3 c3 hF_ => ?_) (fun m0 => ?_)
 obtain ⟨m1, i4, i5⟩ := hF_.get 3 (by kernel_rfl) rfl rfl
 obtain ⟨c4, c5, c6, c7, c8, c9, rfl, i6, i7, i8⟩ := i5
 exact sI (k := 4) (R := RdC) (hR := RdC.mono) (p := p) (cs := [.slice c4 _ c5, .slice c6 _ c7, _, .slice c8 _ c9]) (E := 179) i4 ⟨_, _, _, _, rfl, i6, i7, rfl, i8⟩ rfl (bS (E := 179) (cells := #[.slice c4 _ c5, .slice c6 _ c7, _, .slice c8 _ c9]) (cG rfl) (fun w => by kernel_rfl))
 refine bN ?_
 intro m2 i9 d0
 obtain ⟨j0, f9, j1⟩ := d0.get 4 rfl rfl
 have f1 := St.gives b3 f9
 have f2 : Le _ _ := f9.le b3.sat
 have g0 := j1
 generalize j0 = g1 at *
 obtain ⟨f3, f4, rfl, _⟩ := Sl.shape g0
 clear d0
 simp only [cW]
 refine eG (r := 0) (u := (.slice f3 [p].length f4)) f1 rfl d7 (.agg #[Zn, Zn, bF, Zn]) 80 Tryz.underlying139 b4 b5 b6 b7 rfl (by decide) rfl rfl rfl (Sl.toW g0 (f1).sat) (fun F cs p h => RdC.oneCell h) (Nat.le_refl _) f1.gr.below.size (by unfold maxLen; simp only [List.length_take, List.length_cons, List.length_nil]; omega) (by simp only [List.length_take, List.length_cons, List.length_nil]; omega) ?_
 intro j2 j3 d1 j4
 simp only [pq]
 have d1 : St w F j3 g1 [⟨i1, [(.slice a6 p.name.length a7), (.slice a8 p.key.length a9), (.bool p.wide), (.slice b0 p.last.length b1)], 179⟩, ⟨d4, [(.int .i64 t.start), v, (.slice a0 t.writes.length a1)], 141⟩, ⟨n5, [(iI 0), Zn, Zn], 141⟩, ⟨n2, [(.int .i64 t.start), (.slice x0 t.reads.length y0), (.slice x1 t.writes.length y1)], 141⟩] [bV 4 RdC RdC.mono 179 w.heap.size j2 ((t.reads.take k) ++ [p]), bV 4 WrC WrC.mono 39 w.heap.size (.slice a0 t.writes.length a1) t.writes] := d1
 have hpe : (⟨p.name, p.key, p.wide, p.last⟩ : Rd) = p := rfl
 rw [← fL hp] at d1
 obtain ⟨j5, d2, rfl, j6, f5⟩ := (d1.own (i := 0) rfl).shape
 unfold maxLen at f5
 refine df (sD _ _) ?_
 refine sW 1 d1 (IW) fun j7 b2 => ?_
 refine wlK e8 ?_
 refine aB ?_
 refine cD (k + 1) ?_
 refine dx ?_
 simp only [pq]
 refine aH ?_
 have b2 := St.drop b2 (.cons _ (List.Sublist.refl _))
 exact e5 _ _ _ (by omega) ⟨(k + 1), (.slice j5 (t.reads.take (k + 1)).length d2), g1, _, rfl, rfl, rfl, b2, (c1.trans f2), (by omega)⟩
 refine eM ?_
 refine wn c2 ?_
 refine aF fun j8 g2 => ?_
 refine aG ?_
 refine cS ?_
 refine e3 _ _ ?_
 refine aF fun j9 d3 => ?_
 have hend : t.reads.take k = t.reads := List.take_of_length_le (by omega)
 rw [hend] at a2
 obtain ⟨k0, f6, rfl, k1, f7⟩ := (a2.own (i := 0) rfl).shape
 unfold maxLen at f7
 refine aB ?_
 refine dR a2 0 Tryz.underlying141 (aU) ?_
 refine sW 1 a2 (aU) fun k2 a3 => ?_
 simp only [pq]
 refine wlK d3 ?_
 refine aO ?_
 try simp only [xt]
 refine bR (PA rfl ⟨_, rfl, lR a3 1 Tryz.underlying141 (aU)⟩) ?_
 exact ⟨_, _, _, rfl, a3.gr, a3.own (i := 0) rfl, a3.own (i := 1) rfl⟩
theorem wQ (F : Fz) (w : World) (v u : Value) (t : Tx) (r : Rd) (hs : Sat w F) (hv : TxV F v t) (hu : RdV F u r) (hbw : ∀ r ∈ t.writes, r.name.length ≤ 100000 ∧ r.key.length ≤ 100000 ∧ r.value.length ≤ 100000) :
    Calls Tryz.prog 106 #[v, u] w (dO w F fun F' u => TxE F' u (sQ t r) (oY t r)) := by
 obtain ⟨x0, y0, x1, y1, rfl, h0, h1⟩ := hv
 obtain ⟨_, _, e0, q0, q1⟩ := Sl.shape h0
 obtain ⟨_, _, e1, q2, q3⟩ := Sl.shape h1
 injection e0 with _ _ e0
 injection e1 with _ _ e1
 subst e0 e1
 unfold maxLen at q1 q3
 obtain ⟨z0, z1, z2, z3, z4, z5, rfl, k0, k1, k3⟩ := hu
 obtain ⟨e4, b1, b2, b3, b4⟩ := info_parts IX
 have S := St.start hs
 go_enter Tryz.func106, Tryz.ntmps106
 refine sk fun K1 hK1 => ?_
 refine aZ S (v := fun n => .pointer (aA n 0)) rfl (bW (v := (.agg #[(.int .i64 t.start), (.slice x0 t.reads.length y0), (.slice x1 t.writes.length y1)])) rfl) (fun n2 w3 S4 => ?_)
 refine aZ S4 (v := fun n => .pointer (aA n 0)) rfl (bW (v := (.agg #[(.slice z0 r.name.length z1), (.slice z2 r.key.length z3), (.bool r.wide), (.slice z4 r.last.length z5)])) rfl) (fun n5 w6 S7 => ?_)
 simp only [pq]
 refine sA S7 (fX _) fun n8 w9 e5 => ?_
 refine dy ?_
 refine wn hK1 ?_
 refine aF fun l1 e6 => ?_
 refine sk fun l2 e7 => ?_
 refine dR e5 2 Tryz.underlying141 (aU) ?_
 simp only [pq]
 refine aL (v := (.int .i64 (txE t))) e5 rfl (fn1 (zP _ _)) (mC _ _ _ t (e5).sat ⟨_, _, _, _, rfl, h0, h1⟩ hbw) (fun l3 e2 => ?_)
 refine dy ?_
 refine wn e7 ?_
 refine sk fun l4 b5 => ?_
 refine dx ?_
 simp only [pq]
 by_cases b6 : (txE t) = (0 : Int)
 refine lQ ?_
 refine wn b5 ?_
 refine aG ?_
 refine aI ?_
 refine e6 _ _ ?_
 refine aF fun l5 e8 => ?_
 refine aF fun l6 e9 => ?_
 have ht : TxOk t := mU.1 (by omega)
 have hnr := ht.nr
 refine aB ?_
 refine dR e2 1 Tryz.underlying179 (dE) ?_
 refine aL (v := (.int .i64 (rdE r))) e2 rfl (fn1 (PS _ _)) (BS _ _ _ r (e2).sat ⟨_, _, _, _, _, _, rfl, k0, k1, k3⟩) (fun l7 e3 => ?_)
 refine dy ?_
 simp only [pq]
 refine wlK e9 ?_
 refine sk fun l8 b7 => ?_
 refine dx ?_
 simp only [pq]
 by_cases b9 : (rdE r) = (0 : Int)
 refine lQ ?_
 refine wn b7 ?_
 refine aG ?_
 refine aI ?_
 refine e8 _ _ ?_
 refine aF fun l9 f0 => ?_
 have hr : RdOk r := BX.1 (by omega)
 obtain ⟨hb0, hb1, hb2⟩ := hr.small
 refine aB ?_
 refine dR e3 2 Tryz.underlying141 (aU) ?_
 refine EQ e3 rfl (fn1 (PN _ _)) (yQ _ _ _ t (e3).sat ⟨_, _, _, _, rfl, h0, h1⟩ ht) (by decide) ?_
 intro h4 h5 g2 g3 m0 h6 h7 a1 f1 f2
 unfold maxLen at f1 f2
 refine sA h7 (fX _) fun m1 m2 h8 => ?_
 simp only [pq]
 refine sW 0 h8 (aU) fun h9 i0 => ?_
 refine wlK f0 ?_
 refine aF fun m3 c0 => ?_
 refine aM ?_
 refine aF fun m4 f3 => ?_
 obtain ⟨g4, a2, a0⟩ := St.freezeBlk i0 (i := 2) rfl
 have i1 : RdP _ n5 r := ⟨_, _, _, _, _, _, a0 0 _ rfl, a0 1 _ rfl, a0 2 _ rfl, a0 3 _ rfl, ((k0.mono a1).mono a2), ((k1.mono a1).mono a2), ((k3.mono a1).mono a2)⟩
 generalize addF h6 h9 n5 = i2 at *
 refine aB ?_
 refine aC ?_
 refine dr (.func (.func 128) #[] #[(pP n5 0)]) (mJ rfl) ?_
 simp only [pq]
 refine aL (v := (.bool (t.reads.any (fun q => decide (q = r))))) g4 rfl (fn2 (GM _ _)) (BU _ _ _ n5 t.reads r (g4).sat (h0.mono (a1.trans a2)) i1 (by omega)) (fun m5 a4 => ?_)
 refine dy ?_
 refine wlK f3 ?_
 refine wp_cond_split rfl (fun a3 => ?_) (fun a3 => ?_)
 refine aI ?_
 refine c0 _ _ ?_
 refine aF fun m6 f4 => ?_
 obtain ⟨m7, i3, i4, a8⟩ := St.freeze a4 (i := 0) rfl (Nat.le_refl _)
 have a8 : Rds _ (.slice h4 t.reads.length h5) t.reads := a8
 obtain ⟨m8, g5, f5, a9⟩ := St.freeze i3 (i := 0) rfl (Nat.le_refl _)
 have a9 : Wrs _ (.slice g2 t.writes.length g3) t.writes := a9
 refine aB ?_
 refine dR g5 0 Tryz.underlying141 (aU) ?_
 refine sW 1 g5 (aU) fun m9 g6 => ?_
 simp only [pq]
 refine dy ?_
 refine wlK f4 ?_
 refine aO ?_
 try simp only [xt]
 refine bR (cZ rfl ⟨_, rfl, lR g6 1 Tryz.underlying141 (aU)⟩ (gD rfl)) ?_
 have hm : r ∈ t.reads := by obtain ⟨x, hx, e⟩ := List.any_eq_true.1 a3; have := of_decide_eq_true e; subst this; exact hx
 obtain ⟨he, hT⟩ := BY ht hr (show gH t r = some t by unfold gH; rw [if_pos hm])
 rw [he, hT]
 exact ⟨_, _, rfl, g6.gr, _, rfl, _, _, _, _, rfl, (a8.mono f5), a9⟩
 refine sk fun n0 c1 => ?_
 refine aC ?_
 by_cases i5 : t.reads.length = 20
 refine iR ?_
 refine dy ?_
 refine wn c1 ?_
 refine aK ?_
 refine sk fun n1 f6 => ?_
 refine dr (.agg #[(iI 0), Zn, Zn]) (aJ (gP) (by kernel_rfl)) ?_
 simp only [pq]
 refine sW 1 a4 (aU) fun n3 g7 => ?_
 refine dy ?_
 refine wn f6 ?_
 refine aO ?_
 try simp only [xt]
 refine bR (cZ rfl ⟨_, rfl, lR g7 1 Tryz.underlying141 (aU)⟩ (gD rfl)) ?_
 have hm : r ∉ t.reads := by intro hm; have : t.reads.any (fun q => decide (q = r)) = true := List.any_eq_true.2 ⟨r, hm, decide_eq_true rfl⟩; rw [this] at a3; simp at a3
 have he : oY t r = 11 := by unfold oY; rw [if_neg (by omega), if_neg (by omega), if_neg hm, if_pos (by omega)]
 have hT : sQ t r = jI := by unfold sQ; rw [if_pos (by rw [he]; decide)]
 rw [he, hT]
 exact ⟨_, _, rfl, g7.gr, _, rfl, _, _, _, _, rfl, (Sl.nil _ _ _), (Sl.nil _ _ _)⟩
 refine gL ?_
 refine dy ?_
 simp only [pq]
 refine wn c1 ?_
 refine aG ?_
 refine aQ i2 5 [(3, .made (fun F' u => RdV F' u r)), (4, .made (fun F' u => Rds F' u [r]))] (by kernel_rfl) (by kernel_rfl) ?_
 simp only [cV]
 refine gf (sD _ _) ?_
 refine gl BA a4 0 ?_
 refine gv _ (fun _ a7 => aE rfl (cU Tryz.underlying179 rfl (dE) (eL (St.fz (St.tells a4 a7) (a0 0 _ rfl)) (St.fz (St.tells a4 a7) (a0 1 _ rfl)) (St.fz (St.tells a4 a7) (a0 2 _ rfl)) (St.fz (St.tells a4 a7) (a0 3 _ rfl))))) ?_
 simp only [pq]
 refine dJ rfl rfl (fun i6 a7 hF => bX (cP (vs := #[(.agg #[(.slice z0 r.name.length z1), (.slice z2 r.key.length z3), (.bool r.wide), (.slice z4 r.last.length z5)])]) (kX rfl) rfl (PU _ _)) (dI a4.sat a7 (ES _ _ _ r ((St.tells a4 a7)).sat ⟨_, _, _, _, _, _, rfl, (k0.mono (a1.trans a2)), (k1.mono (a1.trans a2)), (k3.mono (a1.trans a2))⟩ hb0 hb1 hb2))) (fun n4 => ?_)
 simp only [pq]
 refine dJ rfl rfl (fun i6 a7 hF_ => ?_) (fun n6 => ?_)
 obtain ⟨n7, i7, i8⟩ := hF_.get 3 (by kernel_rfl) rfl rfl
 obtain ⟨c2, c3, c4, c5, c6, c7, rfl, i9, j0, j1⟩ := i8
 exact sI (k := 4) (R := RdC) (hR := RdC.mono) (p := r) (cs := [.slice c2 _ c3, .slice c4 _ c5, _, .slice c6 _ c7]) (E := 179) i7 ⟨_, _, _, _, rfl, i9, j0, rfl, j1⟩ rfl (bS (E := 179) (cells := #[.slice c2 _ c3, .slice c4 _ c5, _, .slice c6 _ c7]) (cG rfl) (fun w => by kernel_rfl))
 refine bN ?_
 intro n9 j2 c8
 obtain ⟨j3, g8, j4⟩ := c8.get 4 rfl rfl
 have f7 := St.gives a4 g8
 have j5 : Le _ _ := g8.le a4.sat
 have g9 := j4
 generalize j3 = o0 at *
 obtain ⟨c9, d0, rfl, _⟩ := Sl.shape g9
 clear c8
 simp only [cW]
 refine eG (r := 0) (u := (.slice c9 [r].length d0)) f7 rfl e4 (.agg #[Zn, Zn, bF, Zn]) 80 Tryz.underlying139 b1 b2 b3 b4 rfl (by decide) rfl rfl rfl (Sl.toW g9 (f7).sat) (fun F cs p h => RdC.oneCell h) (Nat.le_refl _) f7.gr.below.size (by unfold maxLen; simp only [List.length_cons, List.length_nil]; omega) (by simp only [List.length_cons, List.length_nil]; omega) ?_
 intro j6 j7 d1 h2
 simp only [pq]
 have hpe : (⟨r.name, r.key, r.wide, r.last⟩ : Rd) = r := rfl
 obtain ⟨f8, b0, rfl, j8, f9⟩ := (d1.own (i := 0) rfl).shape
 unfold maxLen at f9
 refine df (sD _ _) ?_
 refine sW 0 d1 (IW) fun j9 g0 => ?_
 refine wlK c0 ?_
 refine aF fun k2 d2 => ?_
 obtain ⟨k4, g1, h3, a5⟩ := St.freeze g0 (i := 0) rfl (Nat.le_refl _)
 have a5 : Rds _ (.slice f8 (t.reads ++ [r]).length b0) (t.reads ++ [r]) := a5
 obtain ⟨k5, d3, d4, a6⟩ := St.freeze g1 (i := 0) rfl (Nat.le_refl _)
 have a6 : Wrs _ (.slice g2 t.writes.length g3) t.writes := a6
 refine aB ?_
 refine dR d3 0 Tryz.underlying141 (aU) ?_
 simp only [pq]
 refine sW 1 d3 (aU) fun k6 d5 => ?_
 refine dy ?_
 refine wlK d2 ?_
 refine aO ?_
 try simp only [xt]
 refine bR (cZ rfl ⟨_, rfl, lR d5 1 Tryz.underlying141 (aU)⟩ (gD rfl)) ?_
 have hm : r ∉ t.reads := by intro hm; have : t.reads.any (fun q => decide (q = r)) = true := List.any_eq_true.2 ⟨r, hm, decide_eq_true rfl⟩; rw [this] at a3; simp at a3
 obtain ⟨he, hT⟩ := BY ht hr (show gH t r = some ⟨t.start, t.reads ++ [r], t.writes⟩ by unfold gH; rw [if_neg hm, if_neg (by omega)])
 rw [he, hT]
 exact ⟨_, _, rfl, d5.gr, _, rfl, _, _, _, _, rfl, (a5.mono d4), a6⟩
 refine mS ?_
 simp only [pq]
 refine wn b7 ?_
 refine aK ?_
 refine sk fun k7 d6 => ?_
 refine dr (.agg #[(iI 0), Zn, Zn]) (aJ (gP) (by kernel_rfl)) ?_
 refine dx ?_
 refine sW 0 e3 (aU) fun k8 d7 => ?_
 simp only [pq]
 refine dy ?_
 refine wn d6 ?_
 refine aO ?_
 try simp only [xt]
 refine bR (cZ rfl ⟨_, rfl, lR d7 0 Tryz.underlying141 (aU)⟩ (gD rfl)) ?_
 have he : oY t r = rdE r := by unfold oY; rw [if_neg (by omega), if_pos b9]
 have hT : sQ t r = jI := by unfold sQ; rw [if_pos (by rw [he]; exact b9)]
 rw [he, hT]
 exact ⟨_, _, rfl, d7.gr, _, rfl, _, _, _, _, rfl, (Sl.nil _ _ _), (Sl.nil _ _ _)⟩
 refine mS ?_
 refine wn b5 ?_
 refine aK ?_
 refine sk fun k9 d8 => ?_
 refine dr (.agg #[(iI 0), Zn, Zn]) (aJ (gP) (by kernel_rfl)) ?_
 refine dx ?_
 simp only [pq]
 refine sW 0 e2 (aU) fun l0 d9 => ?_
 refine dy ?_
 refine wn d8 ?_
 refine aO ?_
 try simp only [xt]
 refine bR (cZ rfl ⟨_, rfl, lR d9 0 Tryz.underlying141 (aU)⟩ (gD rfl)) ?_
 have he : oY t r = txE t := by unfold oY; rw [if_pos b6]
 have hT : sQ t r = jI := by unfold sQ; rw [if_pos (by rw [he]; exact b6)]
 rw [he, hT]
 exact ⟨_, _, rfl, d9.gr, _, rfl, _, _, _, _, rfl, (Sl.nil _ _ _), (Sl.nil _ _ _)⟩
theorem sR (F : Fz) (w : World) (v u : Value) (t : Tx) (r : Wr) (hs : Sat w F) (hv : TxV F v t) (hu : WrV F u r) (hbw : ∀ r ∈ t.writes, r.name.length ≤ 100000 ∧ r.key.length ≤ 100000 ∧ r.value.length ≤ 100000) (hbr : r.name.length ≤ 100000 ∧ r.key.length ≤ 100000 ∧ r.value.length ≤ 100000) :
    Calls Tryz.prog 94 #[v, u] w (dO w F fun F' u => TxE F' u (rE t r) (mV t r)) := by
 obtain ⟨x0, y0, x1, y1, rfl, h0, h1⟩ := hv
 obtain ⟨_, _, e0, q0, q1⟩ := Sl.shape h0
 obtain ⟨_, _, e1, q2, q3⟩ := Sl.shape h1
 injection e0 with _ _ e0
 injection e1 with _ _ e1
 subst e0 e1
 unfold maxLen at q1 q3
 obtain ⟨z0, z1, z2, z3, z4, z5, rfl, k0, k1, k3⟩ := hu
 obtain ⟨i8, f4, f5, f6, f7⟩ := info_parts GF
 have S := St.start hs
 go_enter Tryz.func94, Tryz.ntmps94
 refine sk fun K1 hK1 => ?_
 refine aZ S (v := fun n => .pointer (aA n 0)) rfl (bW (v := (.agg #[(.int .i64 t.start), (.slice x0 t.reads.length y0), (.slice x1 t.writes.length y1)])) rfl) (fun n2 w3 S4 => ?_)
 refine aZ S4 (v := fun n => .pointer (aA n 0)) rfl (bW (v := (.agg #[(.slice z0 r.name.length z1), (.slice z2 r.key.length z3), (.bool r.gone), (.slice z4 r.value.length z5)])) rfl) (fun n5 w6 S7 => ?_)
 simp only [pq]
 refine sA S7 (fX _) fun n8 w9 f8 => ?_
 refine dy ?_
 refine wn hK1 ?_
 refine aF fun n4 f9 => ?_
 refine sk fun n6 g0 => ?_
 refine dR f8 2 Tryz.underlying141 (aU) ?_
 simp only [pq]
 refine aL (v := (.int .i64 (txE t))) f8 rfl (fn1 (zP _ _)) (mC _ _ _ t (f8).sat ⟨_, _, _, _, rfl, h0, h1⟩ hbw) (fun n7 e9 => ?_)
 refine dy ?_
 refine wn g0 ?_
 refine sk fun n9 c5 => ?_
 refine dx ?_
 simp only [pq]
 by_cases c6 : (txE t) = (0 : Int)
 refine lQ ?_
 refine wn c5 ?_
 refine aG ?_
 refine aI ?_
 refine f9 _ _ ?_
 refine aF fun o0 g1 => ?_
 refine aF fun o1 g2 => ?_
 have ht : TxOk t := mU.1 (by omega)
 have hnr := ht.nr
 have hnw := ht.nw
 refine aB ?_
 refine dR e9 1 Tryz.underlying39 (bI) ?_
 refine aL (v := (.int .i64 (wrE r))) e9 rfl (fn1 (PM _ _)) (uG _ _ _ r (e9).sat ⟨_, _, _, _, _, _, rfl, k0, k1, k3⟩ hbr) (fun o2 f0 => ?_)
 refine dy ?_
 simp only [pq]
 refine wlK g2 ?_
 refine sk fun o3 c7 => ?_
 refine dx ?_
 simp only [pq]
 by_cases c8 : (wrE r) = (0 : Int)
 refine lQ ?_
 refine wn c7 ?_
 refine aG ?_
 refine aI ?_
 refine g1 _ _ ?_
 refine aF fun o4 g3 => ?_
 have hr : WrOk r := nZ.1 (by omega)
 refine aB ?_
 refine dR f0 2 Tryz.underlying141 (aU) ?_
 refine EQ f0 rfl (fn1 (PN _ _)) (yQ _ _ _ t (f0).sat ⟨_, _, _, _, rfl, h0, h1⟩ ht) (by decide) ?_
 intro c2 c3 o5 c4 o6 i9 j0 b7 g4 g5
 unfold maxLen at g4 g5
 refine sA j0 (fX _) fun o7 o8 j1 => ?_
 simp only [pq]
 refine sW 0 j1 (aU) fun o9 i0 => ?_
 refine wlK g3 ?_
 refine sk fun p0 g6 => ?_
 refine dR i0 2 Tryz.underlying39 (bI) ?_
 refine aZ i0 (v := fun n => .slice (aA n 0) 1 1) rfl (bS (ps := #[(0, (.agg #[(.slice z0 r.name.length z1), (.slice z2 r.key.length z3), (.bool r.gone), (.slice z4 r.value.length z5)]))]) (cells := #[(.slice z0 r.name.length z1), (.slice z2 r.key.length z3), (.bool r.gone), (.slice z4 r.value.length z5)]) (E := 39) (cG rfl) (fun w => by kernel_rfl)) (fun i1 j2 j3 => ?_)
 simp only [pq]
 obtain ⟨i2, b9, g7⟩ := St.freezeBlk j3 (i := 0) rfl
 have j4 : Wrs _ (.slice (some ⟨i1, 0, none⟩) 1 1) [r] := fS (R := WrC) (l := [r]) (el := [[(.slice z0 r.name.length z1), (.slice z2 r.key.length z3), (.bool r.gone), (.slice z4 r.value.length z5)]]) g7 rfl ⟨⟨_, _, _, _, rfl, ((k0.mono b7).mono b9), ((k1.mono b7).mono b9), rfl, ((k3.mono b7).mono b9)⟩, trivial⟩ (by simp) (by unfold maxLen; simp)
 generalize addF i9 j2 i1 = p1 at *
 refine aY i2 rfl (fn1 (PO _ _)) (BT _ _ _ [r] (i2).sat j4 (by simp) (by intro x hx; rw [List.mem_singleton.1 hx]; exact hbr)) ?_
 intro p2 p3 j5 c9 j6 i3
 obtain ⟨p4, p5, rfl, p6, p7⟩ := Sl.shape i3
 simp only [pq]
 obtain ⟨j7, j8, g8, a8, a9, b0, b1, b2, b3, j9, k2, k4, k5, f1, f2, f3⟩ := Wrs.get i3 (show [r][0]? = some r from rfl)
 refine dr (pP j7 (j8 + 0 * 4)) (bK (i := 0) (sz := 4) Tryz.underlying40 (eT _) rfl g8 rfl (by simp) rfl) ?_
 refine dr _ (aE rfl (cU Tryz.underlying39 rfl (bI) (eL (St.fz c9 j9) (St.fz c9 k2) (St.fz c9 k4) (St.fz c9 k5)))) ?_
 refine sW 2 c9 (bI) fun k6 k7 => ?_
 simp only [pq]
 refine wn g6 ?_
 refine aF fun p8 g9 => ?_
 obtain ⟨i4, a0, a1⟩ := St.freezeBlk k7 (i := 2) rfl
 have k8 : WrP _ n5 r := ⟨_, _, _, _, _, _, a1 0 _ rfl, a1 1 _ rfl, a1 2 _ rfl, a1 3 _ rfl, (f1.mono a0), (f2.mono a0), (f3.mono a0)⟩
 generalize addF j5 k6 n5 = p9 at *
 refine aB ?_
 refine aC ?_
 refine dr (.func (.func 116) #[] #[(pP n5 0)]) (mJ rfl) ?_
 simp only [pq]
 obtain ⟨q4, h2, h3, d0⟩ := nU i4 (i := 1) rfl
 refine aL (v := (.int .i64 (lG t.writes (fun q => cT q r)))) i4 rfl (fn2 (PP _ _)) (HN _ _ _ n5 t.writes r h2 d0 (k8.mono h3) (by omega)) (fun q5 a3 => ?_)
 refine dy ?_
 refine wlK g9 ?_
 refine aF fun q6 d1 => ?_
 refine aM ?_
 refine sk fun k9 b5 => ?_
 refine dx ?_
 simp only [pq]
 by_cases c0 : (0 : Int) ≤ (lG t.writes (fun q => cT q r))
 refine UD ?_
 refine dy ?_
 refine wn b5 ?_
 refine aK ?_
 obtain ⟨i, hi, hil, hif⟩ := RU c0
 rw [hi]
 obtain ⟨a2, rfl⟩ := Own.addr0 (a3.own (i := 1) rfl) (by omega)
 refine aB ?_
 refine aC ?_
 refine dr _ (aE rfl (cU Tryz.underlying39 rfl (bI) (eL (St.fz a3 (a1 0 _ rfl)) (St.fz a3 (a1 1 _ rfl)) (St.fz a3 (a1 2 _ rfl)) (St.fz a3 (a1 3 _ rfl))))) ?_
 refine dr (pP a2 (0 + i * 4)) (bK (i := i) (sz := 4) Tryz.underlying40 (eT _) rfl rfl rfl (by omega) rfl) ?_
 refine AV (r := 1) (i := i) (p := r) (u := (.agg #[(.slice a8 r.name.length a9), (.slice b0 r.key.length b1), (.bool r.gone), (.slice b2 r.value.length b3)])) a3 rfl rfl (by omega) rfl rfl (by omega) (bI) (Et rfl rfl rfl rfl) rfl ⟨_, _, _, _, rfl, (f1.mono a0), (f2.mono a0), rfl, (f3.mono a0)⟩ (Nat.le_refl _) (fun l0 h4 => ?_)
 refine wlK d1 ?_
 refine aF fun l1 d2 => ?_
 obtain ⟨l2, h5, i5, a4⟩ := St.freeze h4 (i := 0) rfl (Nat.le_refl _)
 have a4 : Rds _ (.slice c2 t.reads.length c3) t.reads := a4
 obtain ⟨l3, d3, d4, a5⟩ := St.freeze h5 (i := 0) rfl (Nat.le_refl _)
 have a5 : Wrs _ (.slice (some ⟨a2, 0, none⟩) t.writes.length c4) (t.writes.set i r) := a5
 refine aB ?_
 refine dR d3 0 Tryz.underlying141 (aU) ?_
 simp only [pq]
 refine sW 1 d3 (aU) fun l4 d5 => ?_
 refine dy ?_
 refine wlK d2 ?_
 refine aO ?_
 try simp only [xt]
 refine bodyPost_ret (v := (.tuple #[(.agg #[(.int .i64 t.start), (.slice c2 t.reads.length c3), (.slice (some ⟨a2, 0, none⟩) t.writes.length c4)]), (.int .i64 0)])) ?_ rfl ?_
 exact cZ rfl ⟨_, rfl, kW (cs := [(.int .i64 t.start), (.slice c2 t.reads.length c3), (.slice (some ⟨a2, 0, none⟩) t.writes.length c4)]) Tryz.underlying141 rfl (aU) (St.range d5 (i := 1) rfl 0 [(.int .i64 t.start), (.slice c2 t.reads.length c3), (.slice (some ⟨a2, 0, none⟩) t.writes.length c4)] (eF 0 rfl))⟩ rfl
 obtain ⟨he, hT⟩ := xT ht hr (show fD t r = some ⟨t.start, t.reads, t.writes.set i r⟩ by unfold fD yW; rw [hif])
 rw [he, hT]
 exact ⟨_, _, rfl, d5.gr, _, rfl, _, _, _, _, (show _ = Value.agg #[.int .i64 t.start, (.slice c2 t.reads.length c3), (.slice (some ⟨a2, 0, none⟩) (t.writes.set i r).length c4)] from by rw [List.length_set]), (a4.mono d4), (show Wrs _ (.slice (some ⟨a2, 0, none⟩) (t.writes.set i r).length c4) (t.writes.set i r) from by rw [List.length_set]; exact a5)⟩
 refine UE ?_
 refine dy ?_
 simp only [pq]
 refine wn b5 ?_
 refine aG ?_
 refine sk fun l5 b6 => ?_
 refine aC ?_
 by_cases l6 : t.writes.length = 10
 refine iR ?_
 refine dy ?_
 refine wn b6 ?_
 refine aK ?_
 refine sk fun l7 d6 => ?_
 refine dr (.agg #[(iI 0), Zn, Zn]) (aJ (gP) (by kernel_rfl)) ?_
 simp only [pq]
 refine sW 1 a3 (aU) fun l8 d7 => ?_
 refine dy ?_
 refine wn d6 ?_
 refine aO ?_
 try simp only [xt]
 refine bR (cZ rfl ⟨_, rfl, lR d7 1 Tryz.underlying141 (aU)⟩ (gD rfl)) ?_
 obtain ⟨he, hT⟩ := yP ht hr (show fD t r = none by unfold fD yW; rw [JT c0]; simp only; rw [if_pos (by omega)])
 rw [he, hT]
 exact ⟨_, _, rfl, d7.gr, _, rfl, _, _, _, _, rfl, (Sl.nil _ _ _), (Sl.nil _ _ _)⟩
 refine gL ?_
 refine dy ?_
 simp only [pq]
 refine wn b6 ?_
 refine aG ?_
 refine aB ?_
 refine aC ?_
 refine dr _ (aE rfl (cU Tryz.underlying39 rfl (bI) (eL (St.fz a3 (a1 0 _ rfl)) (St.fz a3 (a1 1 _ rfl)) (St.fz a3 (a1 2 _ rfl)) (St.fz a3 (a1 3 _ rfl))))) ?_
 simp only [pq]
 refine aZ a3 (v := fun n => .slice (aA n 0) 1 1) rfl (bS (ps := #[(0, (.agg #[(.slice a8 r.name.length a9), (.slice b0 r.key.length b1), (.bool r.gone), (.slice b2 r.value.length b3)]))]) (cells := #[(.slice a8 r.name.length a9), (.slice b0 r.key.length b1), (.bool r.gone), (.slice b2 r.value.length b3)]) (E := 39) (cG rfl) (fun w => by kernel_rfl)) (fun l9 m0 d8 => ?_)
 refine eK (i := 0) (r := 1) (p := r) (cs := [(.slice a8 r.name.length a9), (.slice b0 r.key.length b1), (.bool r.gone), (.slice b2 r.value.length b3)]) d8 rfl i8 (.agg #[Zn, Zn, bF, Zn]) 80 Tryz.underlying40 f4 f5 f6 f7 rfl (by decide) rfl rfl rfl rfl rfl (WrC.oneCell (p := r) ⟨_, _, _, _, rfl, (f1.mono a0), (f2.mono a0), rfl, (f3.mono a0)⟩) (⟨_, _, _, _, rfl, (f1.mono a0), (f2.mono a0), rfl, (f3.mono a0)⟩) (Nat.le_refl _) d8.gr.below.size (by unfold maxLen; omega) (by omega) ?_
 intro m1 m2 b4 i6
 simp only [pq]
 have b4 := St.drop b4 (.cons _ (List.Sublist.refl _))
 obtain ⟨h6, c1, rfl, m3, h7⟩ := (b4.own (i := 1) rfl).shape
 unfold maxLen at h7
 refine df (wE _ _) ?_
 refine sW 0 b4 (GA) fun m4 h8 => ?_
 refine wlK d1 ?_
 refine aF fun m5 d9 => ?_
 obtain ⟨m6, h9, i7, a6⟩ := St.freeze h8 (i := 0) rfl (Nat.le_refl _)
 have a6 : Rds _ (.slice c2 t.reads.length c3) t.reads := a6
 obtain ⟨m7, e2, e3, a7⟩ := St.freeze h9 (i := 0) rfl (Nat.le_refl _)
 have a7 : Wrs _ (.slice h6 (t.writes ++ [r]).length c1) (t.writes ++ [r]) := a7
 refine aB ?_
 refine dR e2 0 Tryz.underlying141 (aU) ?_
 simp only [pq]
 refine sW 1 e2 (aU) fun m8 e4 => ?_
 refine dy ?_
 refine wlK d9 ?_
 refine aO ?_
 try simp only [xt]
 refine bR (cZ rfl ⟨_, rfl, lR e4 1 Tryz.underlying141 (aU)⟩ (gD rfl)) ?_
 obtain ⟨he, hT⟩ := xT ht hr (show fD t r = some ⟨t.start, t.reads, t.writes ++ [r]⟩ by unfold fD yW; rw [JT c0]; simp only; rw [if_neg (by omega)])
 rw [he, hT]
 exact ⟨_, _, rfl, e4.gr, _, rfl, _, _, _, _, rfl, (a6.mono e3), a7⟩
 refine mS ?_
 simp only [pq]
 refine wn c7 ?_
 refine aK ?_
 refine sk fun m9 e5 => ?_
 refine dr (.agg #[(iI 0), Zn, Zn]) (aJ (gP) (by kernel_rfl)) ?_
 refine dx ?_
 refine sW 0 f0 (aU) fun n0 e6 => ?_
 simp only [pq]
 refine dy ?_
 refine wn e5 ?_
 refine aO ?_
 try simp only [xt]
 refine bR (cZ rfl ⟨_, rfl, lR e6 0 Tryz.underlying141 (aU)⟩ (gD rfl)) ?_
 have he : mV t r = wrE r := by unfold mV; rw [if_neg (by omega), if_pos c8]
 have hT : rE t r = jI := by unfold rE; rw [if_pos (by rw [he]; exact c8)]
 rw [he, hT]
 exact ⟨_, _, rfl, e6.gr, _, rfl, _, _, _, _, rfl, (Sl.nil _ _ _), (Sl.nil _ _ _)⟩
 refine mS ?_
 refine wn c5 ?_
 refine aK ?_
 refine sk fun n1 e7 => ?_
 refine dr (.agg #[(iI 0), Zn, Zn]) (aJ (gP) (by kernel_rfl)) ?_
 refine dx ?_
 simp only [pq]
 refine sW 0 e9 (aU) fun n3 e8 => ?_
 refine dy ?_
 refine wn e7 ?_
 refine aO ?_
 try simp only [xt]
 refine bR (cZ rfl ⟨_, rfl, lR e8 0 Tryz.underlying141 (aU)⟩ (gD rfl)) ?_
 have he : mV t r = txE t := by unfold mV; rw [if_pos c6]
 have hT : rE t r = jI := by unfold rE; rw [if_pos (by rw [he]; exact c6)]
 rw [he, hT]
 exact ⟨_, _, rfl, e8.gr, _, rfl, _, _, _, _, rfl, (Sl.nil _ _ _), (Sl.nil _ _ _)⟩
theorem TxV.dropT {w : World} {F : Fz} {n : Nat} {T : TypeId} (hs : Sat w F) (hb : w.heap[n]? = some (.cells [Value.int .i64 0, Value.slice none 0 0, Value.slice none 0 0].toArray T (0, 0))) (hc : ∀ u ∈ [Value.int .i64 0, Value.slice none 0 0, Value.slice none 0 0], ∀ x, u ≠ bv x) {u : Value} {t : Tx} (h : TxV F u t) : TxV (dropF F n) u t := by
 obtain ⟨x0, y0, x1, y1, rfl, h0, h1⟩ := h
 exact ⟨x0, y0, x1, y1, rfl, Rds.dropF hs hb hc (by simp) h0, Wrs.dropF hs hb hc (by simp) h1⟩
theorem mW (F : Fz) (w : World) (v u : Value) (t : Tx) (r : Wr) (t' : Tx) (hs : Sat w F) (hv : TxV F v t) (hu : WrV F u r) (ht : TxOk t) (hr : WrOk r) (e : fD t r = some t') :
    Calls Tryz.prog 94 #[v, u] w (dO w F fun F' u => TxE F' u t' 0) := by
 have := sR F w v u t r hs hv hu (fun x hx => (ht.writes x hx).small) hr.small
 obtain ⟨h1, h2⟩ := xT ht hr e
 rwa [h1, h2] at this
theorem oB (F : Fz) (w : World) (v u : Value) (t : Tx) (r : Rd) (t' : Tx) (hs : Sat w F) (hv : TxV F v t) (hu : RdV F u r) (ht : TxOk t) (hr : RdOk r) (e : gH t r = some t') :
    Calls Tryz.prog 106 #[v, u] w (dO w F fun F' u => TxE F' u t' 0) := by
 have := wQ F w v u t r hs hv hu (fun x hx => (ht.writes x hx).small)
 obtain ⟨h1, h2⟩ := BY ht hr e
 rwa [h1, h2] at this
theorem tQ (a b : By) : (!Op.bytesLess a b) = decide (0 ≤ eQ a b) := by
 rw [Bool.eq_iff_iff, decide_eq_true_iff, Bool.not_eq_true', ← Bool.not_eq_true, show (Op.bytesLess a b = true) ↔ eQ a b < 0 from qK.symm]
 omega
theorem tR (a b : By) : (!Op.bytesLess b a) = decide (eQ a b ≤ 0) := by
 rw [Bool.eq_iff_iff, decide_eq_true_iff, Bool.not_eq_true', ← Bool.not_eq_true, show (Op.bytesLess b a = true) ↔ 0 < eQ a b from YM.symm]
 omega
theorem HO (F : Fz) (w : World) (v u : Value) (r : Rd) (p : Wr) (hs : Sat w F) (hv : RdV F v r) (hu : WrV F u p) :
    Calls Tryz.prog 133 #[v, u] w (cY w (.bool (dM r p))) := by
 obtain ⟨x0, x1, x2, x3, x4, x5, rfl, h0, h1, h3⟩ := hv
 obtain ⟨y0, y1, y2, y3, y4, y5, rfl, k0, k1, k3⟩ := hu
 have S := St.start hs
 go_enter Tryz.func133, Tryz.ntmps133
 refine sk fun K1 hK1 => ?_
 refine aZ S (v := fun n => .pointer (aA n 0)) rfl (bW (v := (.agg #[(.slice x0 r.name.length x1), (.slice x2 r.key.length x3), (.bool r.wide), (.slice x4 r.last.length x5)])) rfl) (fun n2 w3 S4 => ?_)
 refine aZ S4 (v := fun n => .pointer (aA n 0)) rfl (bW (v := (.agg #[(.slice y0 p.name.length y1), (.slice y2 p.key.length y3), (.bool p.gone), (.slice y4 p.value.length y5)])) rfl) (fun n5 w6 S7 => ?_)
 simp only [pq]
 refine dy ?_
 refine wn hK1 ?_
 refine aF fun K8 hK8 => ?_
 refine aF fun K9 hK9 => ?_
 by_cases e1 : r.name = p.name
 refine aB ?_
 refine aC ?_
 refine aL (v := bT) S7 rfl (fn2 (iY _ _)) (fC (cR _ _ _ _ r.name p.name (S7).sat h0 k0) (beq_iff_eq.2 (e1))) (fun b2 a1 => ?_)
 refine dt ?_
 refine wlK hK9 ?_
 refine aG ?_
 refine aI ?_
 refine hK8 _ _ ?_
 refine aF fun b3 a3 => ?_
 refine aF fun b4 a2 => ?_
 cases hwd : r.wide with
 | false =>
  rw [hwd] at a1
  refine aB ?_
  refine aC ?_
  refine wlK a2 ?_
  refine aK ?_
  refine sk fun b5 a4 => ?_
  refine aC ?_
  refine aL (v := (.bool (r.key == p.key))) a1 rfl (fn2 (iY _ _)) (cR _ _ _ _ r.key p.key (a1).sat h1 k1) (fun b6 a8 => ?_)
  refine dy ?_
  refine wn a4 ?_
  refine aO ?_
  try simp only [xt]
  refine bR (bC rfl (gD rfl)) ?_
  exact ⟨by unfold dM; rw [beq_iff_eq.2 e1, hwd]; rfl, a8.gr.below⟩
 | true =>
  rw [hwd] at a1
  refine aB ?_
  refine aC ?_
  refine wlK a2 ?_
  refine aG ?_
  refine aI ?_
  refine a3 _ _ ?_
  refine sk fun b7 a0 => ?_
  refine aC ?_
  refine aL (v := (.int .i64 (eQ p.key r.key))) a1 rfl (fn2 (uP _ _)) (eS _ _ _ _ p.key r.key (a1).sat k1 h1) (fun b9 a5 => ?_)
  simp only [pq]
  by_cases a9 : (0 : Int) ≤ (eQ p.key r.key)
  refine UD ?_
  refine aC ?_
  refine aL (v := (.int .i64 (eQ p.key r.last))) a5 rfl (fn2 (uP _ _)) (eS _ _ _ _ p.key r.last (a5).sat k1 h3) (fun c0 a7 => ?_)
  simp only [pq]
  by_cases b0 : (eQ p.key r.last) ≤ (0 : Int)
  refine Eu ?_
  refine aC ?_
  refine wn a0 ?_
  refine aO ?_
  try simp only [xt]
  refine bR (bC rfl (gD rfl)) ?_
  exact ⟨by unfold dM; rw [beq_iff_eq.2 e1, hwd]; simp only [if_true, Bool.true_and]; rw [tQ, tR]; first | rw [decide_eq_true (by omega), decide_eq_true (by omega)]; rfl | rw [decide_eq_true (by omega), decide_eq_false (by omega)]; rfl | rw [decide_eq_false (by omega)]; rfl, a7.gr.below⟩
  refine Ev ?_
  refine aC ?_
  refine wn a0 ?_
  refine aO ?_
  try simp only [xt]
  refine bR (bC rfl (gD rfl)) ?_
  exact ⟨by unfold dM; rw [beq_iff_eq.2 e1, hwd]; simp only [if_true, Bool.true_and]; rw [tQ, tR]; first | rw [decide_eq_true (by omega), decide_eq_true (by omega)]; rfl | rw [decide_eq_true (by omega), decide_eq_false (by omega)]; rfl | rw [decide_eq_false (by omega)]; rfl, a7.gr.below⟩
  refine UE ?_
  refine aC ?_
  refine wn a0 ?_
  refine aO ?_
  try simp only [xt]
  refine bR (bC rfl (gD rfl)) ?_
  exact ⟨by unfold dM; rw [beq_iff_eq.2 e1, hwd]; simp only [if_true, Bool.true_and]; rw [tQ, tR]; first | rw [decide_eq_true (by omega), decide_eq_true (by omega)]; rfl | rw [decide_eq_true (by omega), decide_eq_false (by omega)]; rfl | rw [decide_eq_false (by omega)]; rfl, a5.gr.below⟩
 refine aB ?_
 refine aC ?_
 refine aL (v := bF) S7 rfl (fn2 (iY _ _)) (fC (cR _ _ _ _ r.name p.name (S7).sat h0 k0) (beq_eq_false_iff_ne.2 (e1))) (fun c1 b1 => ?_)
 refine dt ?_
 refine wlK hK9 ?_
 refine aK ?_
 refine sk fun c2 a6 => ?_
 refine dy ?_
 simp only [pq]
 refine wn a6 ?_
 refine aO ?_
 try simp only [xt]
 refine bR (bC rfl (gD rfl)) ?_
 exact ⟨by unfold dM; rw [beq_eq_false_iff_ne.2 e1]; rfl, b1.gr.below⟩
theorem JU (F : Fz) (w : World) (v : Value) (b : Nat) (q : Rd) (r : Wr) (hs : Sat w F) (hv : RdV F v q) (hr : WrP F b r) :
    Calls Tryz.prog 132 #[v, .pointer (some ⟨b, 0, none⟩)] w (cY w (.bool (dM q r))) := by
 obtain ⟨x0, x1, x2, x3, x4, x5, rfl, h0, h1, h3⟩ := hv
 obtain ⟨z0, z1, z2, z3, z4, z5, c0, c1, c2, c3, k0, k1, k3⟩ := hr
 have S := St.start hs
 go_enter Tryz.func132, Tryz.ntmps132
 refine sk fun K1 hK1 => ?_
 refine aZ S (v := fun n => .pointer (aA n 0)) rfl (bW (v := (.agg #[(.slice x0 q.name.length x1), (.slice x2 q.key.length x3), (.bool q.wide), (.slice x4 q.last.length x5)])) rfl) (fun n2 w3 S4 => ?_)
 refine dy ?_
 refine wn hK1 ?_
 refine sk fun K5 hK5 => ?_
 refine dR S4 0 Tryz.underlying179 (dE) ?_
 refine dr _ (aE rfl (cU Tryz.underlying39 rfl (bI) (eL (St.fz S4 c0) (St.fz S4 c1) (St.fz S4 c2) (St.fz S4 c3)))) ?_
 simp only [pq]
 refine aL (v := (.bool (dM q r))) S4 rfl (fn2 (Ak _ _)) (HO _ _ _ _ _ _ (S4).sat ⟨_, _, _, _, _, _, rfl, h0, h1, h3⟩ ⟨_, _, _, _, _, _, rfl, k0, k1, k3⟩) (fun w6 S7 => ?_)
 refine dy ?_
 refine wn hK5 ?_
 refine aO ?_
 try simp only [xt]
 refine bR (bC rfl (gD rfl)) ?_
 exact ⟨rfl, S7.gr.below⟩
theorem HP (F : Fz) (w : World) (v : Value) (b : Nat) (l : List Rd) (r : Wr) (hs : Sat w F) (hv : Rds F v l) (hr : WrP F b r) (hl : l.length ≤ 1000000) :
    Calls Tryz.prog 146 #[v, .func (.func 132) #[] #[.pointer (some ⟨b, 0, none⟩)]] w (cY w (.int .i64 (lG l (fun q : Rd => (dM q r))))) := by
 obtain ⟨a, c, rfl, hc1, hc2⟩ := Sl.shape hv
 unfold maxLen at hc2
 have S := St.start hs
 go_enter Tryz.func146, Tryz.ntmps146
 refine sk fun K1 hK1 => ?_
 refine dy ?_
 refine wn hK1 ?_
 refine aF fun K2 hK2 => ?_
 refine sk fun K3 hK3 => ?_
 refine aC ?_
 refine wn hK3 ?_
 refine aM ?_
 refine aW (fun mm aa w5 => ∃ (k : Nat) (u4 : Nat → Value), mm = l.length - k ∧ u4 = dY aa ∧ aa = ⟨([(.slice a l.length c), (.func (.func 132) #[] #[(pP b 0)]), undef, undef, (u4 4), (u4 5), (.slice a l.length c), (nI l.length), (nI k)] ++ (usF u4 9 10 [])).toArray, []⟩ ∧ St w F w5 F [] [] ∧ (k ≤ l.length) ∧ (∀ (i : Nat) q, i < k → l[i]? = some q → (fun q : Rd => (dM q r)) q = false)) _ ⟨0, _, rfl, rfl, rfl, S, (by omega), (fun i q hi => absurd hi (by omega))⟩ ?_
 rintro m6 a7 w8 ⟨k, u4, rfl, -, hfr, S9, hk, hbad⟩ c9 a9
 simp only [uzF, Nat.reduceAdd] at hfr; subst hfr
 refine sk fun d0 a1 => ?_
 by_cases hc9 : k < l.length
 refine fA ?_
 refine wn a1 ?_
 refine aF fun d1 b0 => ?_
 refine aK ?_
 refine aI ?_
 refine b0 _ _ ?_
 refine aF fun d2 b1 => ?_
 refine aM ?_
 refine sk fun d3 b2 => ?_
 refine aC ?_
 refine wn b2 ?_
 refine aF fun d4 b3 => ?_
 obtain ⟨p, hp⟩ : ∃ p, l[k]? = some p := ⟨l[k], List.getElem?_eq_getElem hc9⟩
 obtain ⟨b9, c0, b4, a2, a3, a4, a5, a6, a8, c1, c2, c3, c4, c5, c6, c7⟩ := Rds.get hv hp
 refine aB ?_
 refine aC ?_
 refine dr (pP b9 (c0 + k * 4)) (bK (i := k) (sz := 4) Tryz.underlying139 (jE _) rfl b4 rfl (by omega) rfl) ?_
 refine dr _ (aE rfl (cU Tryz.underlying179 rfl (dE) (eL (St.fz S9 c1) (St.fz S9 c2) (St.fz S9 c3) (St.fz S9 c4)))) ?_
 refine aL (v := (.bool ((fun q : Rd => (dM q r)) p))) S9 rfl (uE (fs := #[]) (cs := #[(pP b 0)]) (vs := #[(.agg #[(.slice a2 p.name.length a3), (.slice a4 p.key.length a5), (.bool p.wide), (.slice a6 p.last.length a8)]), (pP b 0)]) rfl (CY (fs := #[]) (cs := #[(pP b 0)]) (xs := #[(.agg #[(.slice a2 p.name.length a3), (.slice a4 p.key.length a5), (.bool p.wide), (.slice a6 p.last.length a8)])]) (kX rfl) (by simp)) (Aj _ _)) (JU _ _ _ b p r (S9).sat ⟨_, _, _, _, _, _, rfl, c5, c6, c7⟩ hr) (fun d5 b7 => ?_)
 refine wlK b3 ?_
 refine wp_cond_split rfl (fun a0 => ?_) (fun a0 => ?_)
 refine sk fun d6 b5 => ?_
 refine aC ?_
 refine wn b5 ?_
 refine aO ?_
 try simp only [xt]
 refine bR (bC rfl (gD rfl)) ?_
 exact ⟨by rw [sN hp a0 hbad], b7.gr.below⟩
 refine aI ?_
 refine b1 _ _ ?_
 refine aB ?_
 refine cD (k + 1) ?_
 refine dx ?_
 refine aH ?_
 exact a9 _ _ _ (by omega) ⟨(k + 1), _, rfl, rfl, rfl, b7, (by omega), (fun i q hi hq => by rcases Nat.lt_succ_iff_lt_or_eq.1 hi with h | rfl; exact hbad i q h hq; (rw [hp] at hq; cases hq; exact a0))⟩
 refine eM ?_
 simp only [pq]
 refine wn a1 ?_
 refine aF fun d7 c8 => ?_
 refine aG ?_
 refine cS ?_
 refine hK2 _ _ ?_
 refine sk fun d8 b6 => ?_
 refine dy ?_
 refine wn b6 ?_
 refine aO ?_
 try simp only [xt]
 refine bR (bC rfl (gD rfl)) ?_
 exact ⟨by rw [qC (fun i q hi hq => hbad i q (by omega) hq)], S9.gr.below⟩
theorem zC (F : Fz) (w : World) (v : Value) (b : Nat) (l : List Rd) (r : Wr) (hs : Sat w F) (hv : Rds F v l) (hr : WrP F b r) (hl : l.length ≤ 1000000) :
    Calls Tryz.prog 127 #[v, .func (.func 132) #[] #[.pointer (some ⟨b, 0, none⟩)]] w (cY w (.bool (l.any (fun q : Rd => (dM q r))))) := by
 obtain ⟨a, c, rfl, hc1, hc2⟩ := Sl.shape hv
 have S := St.start hs
 go_enter Tryz.func127, Tryz.ntmps127
 refine sk fun K1 hK1 => ?_
 refine dy ?_
 refine wn hK1 ?_
 refine sk fun K2 hK2 => ?_
 refine aC ?_
 refine aL (v := (.int .i64 (lG l (fun q : Rd => (dM q r))))) S rfl (fn2 (GN _ _)) (HP _ _ _ b l r (S).sat hv hr hl) (fun w3 S4 => ?_)
 refine dr (.bool (l.any (fun q : Rd => (dM q r)))) (xN (m := lG l (fun q : Rd => (dM q r))) (n := 0) (b := l.any (fun q : Rd => (dM q r))) rfl rfl wP) ?_
 refine dy ?_
 refine wn hK2 ?_
 refine aO ?_
 try simp only [xt]
 refine bR (bC rfl (gD rfl)) ?_
 exact ⟨rfl, S4.gr.below⟩
def oC (l : aP) (t : Tx) : Int := if fF l ≠ 0 then fF l else txE t
theorem JV {l : aP} {t : Tx} : oC l t = 0 ↔ ForestOk 60 l ∧ TxOk t := by
 unfold oC
 by_cases h : fF l = 0
 ·rw [if_neg (by simpa using h), mU, ← qY]; exact ⟨fun k => ⟨h, k⟩, fun k => k.2⟩
 ·rw [if_pos h]; exact ⟨fun k => absurd k h, fun k => absurd (qY.2 k.1) h⟩
theorem EU (F : Fz) (w : World) (u v : Value) (l : aP) (t : Tx) (hs : Sat w F) (hl : Tns F u l) (hv : TxV F v t) (hbw : ∀ r ∈ t.writes, r.name.length ≤ 100000 ∧ r.key.length ≤ 100000 ∧ r.value.length ≤ 100000) :
    Calls Tryz.prog 103 #[u, v] w (cY w (.int .i64 (oC l t))) := by
 obtain ⟨a, c, rfl, hc1, hc2⟩ := Sl.shape hl
 obtain ⟨x0, y0, x1, y1, rfl, h0, h1⟩ := hv
 obtain ⟨_, _, e0, q0, q1⟩ := Sl.shape h0
 obtain ⟨_, _, e1, q2, q3⟩ := Sl.shape h1
 injection e0 with _ _ e0
 injection e1 with _ _ e1
 subst e0 e1
 unfold maxLen at q1 q3
 have S := St.start hs
 go_enter Tryz.func103, Tryz.ntmps103
 refine sk fun K1 hK1 => ?_
 refine aZ S (v := fun n => .pointer (aA n 0)) rfl (bW (v := (.agg #[(.int .i64 t.start), (.slice x0 t.reads.length y0), (.slice x1 t.writes.length y1)])) rfl) (fun n2 w3 S4 => ?_)
 refine dy ?_
 refine wn hK1 ?_
 refine aF fun K5 hK5 => ?_
 refine sk fun K6 hK6 => ?_
 refine dx ?_
 refine aL (v := (.int .i64 (fF l))) S4 rfl (fn1 (MW _ _)) (lT _ _ _ l (S4).sat hl) (fun w7 S8 => ?_)
 simp only [pq]
 refine dy ?_
 refine wn hK6 ?_
 refine sk fun K9 hK9 => ?_
 refine dx ?_
 simp only [pq]
 by_cases hc9 : (fF l) = (0 : Int)
 refine lQ ?_
 refine wn hK9 ?_
 refine aG ?_
 refine aI ?_
 refine hK5 _ _ ?_
 refine sk fun a3 a0 => ?_
 refine dR S8 0 Tryz.underlying141 (aU) ?_
 refine aL (v := (.int .i64 (txE t))) S8 rfl (fn1 (zP _ _)) (mC _ _ _ t (S8).sat ⟨_, _, _, _, rfl, h0, h1⟩ hbw) (fun a4 a2 => ?_)
 refine dy ?_
 simp only [pq]
 refine wn a0 ?_
 refine aO ?_
 try simp only [xt]
 refine bR (bC rfl (gD rfl)) ?_
 exact ⟨by unfold oC; rw [if_neg (by omega)], a2.gr.below⟩
 refine mS ?_
 refine wn hK9 ?_
 refine aK ?_
 refine sk fun a5 a1 => ?_
 refine aC ?_
 refine wn a1 ?_
 refine aO ?_
 try simp only [xt]
 refine bR (bC rfl (gD rfl)) ?_
 exact ⟨by unfold oC; rw [if_pos hc9], S8.gr.below⟩
theorem wR {α : Type} {l : List α} {g : α → Bool} {k : Nat} {p : α} (hp : l[k]? = some p) (h : (l.take k).any g = false) (hg : g p = false) : (l.take (k + 1)).any g = false := by
 obtain ⟨hk, rfl⟩ := List.getElem?_eq_some_iff.1 hp
 rw [List.take_succ_eq_append_getElem hk, List.any_append, h]
 simp [hg]
theorem HQ {α : Type} {l : List α} {g : α → Bool} {k : Nat} (hk : l.length ≤ k) (h : (l.take k).any g = false) : l.any g = false := by rwa [List.take_of_length_le hk] at h
theorem QE {α : Type} {l : List α} {g : α → Bool} {k : Nat} {p : α} (hp : l[k]? = some p) (hg : g p = true) : l.any g = true := List.any_eq_true.2 ⟨p, List.mem_of_getElem? hp, hg⟩
theorem Ey {t : Tx} {p : Cm} (h : (p.turn : Int) ≤ t.start) : (fun c : Cm => decide (t.start < c.turn) && c.writes.any (fun w : Wr => t.reads.any fun r => dM r w)) p = false := by (try simp only); rw [decide_eq_false (by omega)]; rfl
def BZ (t : Tx) (cs : List Cm) : Bool := if txE t ≠ 0 then false else jR t.start t.reads cs
theorem NQ (F : Fz) (w : World) (v u : Value) (t : Tx) (cs : List Cm) (hs : Sat w F) (hv : TxV F v t) (hl : Cms F u cs) (hcs : ∀ c ∈ cs, c.writes.length ≤ 100000) (hbw : ∀ r ∈ t.writes, r.name.length ≤ 100000 ∧ r.key.length ≤ 100000 ∧ r.value.length ≤ 100000) :
    Calls Tryz.prog 109 #[v, u] w (cY w (.tuple #[.bool (BZ t cs), .int .i64 (txE t)])) := by
 obtain ⟨a, c, rfl, hc1, hc2⟩ := Sl.shape hl
 unfold maxLen at hc2
 obtain ⟨x0, y0, x1, y1, rfl, h0, h1⟩ := hv
 obtain ⟨_, _, e0, q0, q1⟩ := Sl.shape h0
 obtain ⟨_, _, e1, q2, q3⟩ := Sl.shape h1
 injection e0 with _ _ e0
 injection e1 with _ _ e1
 subst e0 e1
 unfold maxLen at q1 q3
 have S := St.start hs
 go_enter Tryz.func109, Tryz.ntmps109
 refine sk fun K1 hK1 => ?_
 refine aZ S (v := fun n => .pointer (aA n 0)) rfl (bW (v := (.agg #[(.int .i64 t.start), (.slice x0 t.reads.length y0), (.slice x1 t.writes.length y1)])) rfl) (fun n2 w3 S4 => ?_)
 iterate 2 refine dy ?_
 refine wn hK1 ?_
 refine aF fun K5 hK5 => ?_
 refine sk fun K6 hK6 => ?_
 refine dR S4 0 Tryz.underlying141 (aU) ?_
 simp only [pq]
 refine aL (v := (.int .i64 (txE t))) S4 rfl (fn1 (zP _ _)) (mC _ _ _ t (S4).sat ⟨_, _, _, _, rfl, h0, h1⟩ hbw) (fun w7 S8 => ?_)
 refine dy ?_
 refine wn hK6 ?_
 refine sk fun K9 hK9 => ?_
 refine dx ?_
 simp only [pq]
 by_cases c2 : (txE t) = (0 : Int)
 refine lQ ?_
 refine wn hK9 ?_
 refine aG ?_
 refine aI ?_
 refine hK5 _ _ ?_
 refine aF fun h8 c3 => ?_
 refine aF fun h9 c4 => ?_
 have ht : TxOk t := mU.1 (by omega)
 have hnr := ht.nr
 refine aB ?_
 refine aC ?_
 refine wlK c4 ?_
 refine aM ?_
 refine aW (fun mm aa e7 => ∃ (k : Nat) (a9 : Fz) (a4 : Nat → Value), mm = cs.length - k ∧ a4 = dY aa ∧ aa = ⟨([(.agg #[(.int .i64 t.start), (.slice x0 t.reads.length y0), (.slice x1 t.writes.length y1)]), (.slice a cs.length c), (pP n2 0), undef, (a4 4), (a4 5), (.int .i64 (txE t)), undef, (a4 8), undef, (a4 10), (.agg #[(.int .i64 t.start), (.slice x0 t.reads.length y0), (.slice x1 t.writes.length y1)]), (.int .i64 (txE t)), (.int .i64 (txE t)), bF, undef, (.slice a cs.length c), (nI cs.length), (nI k)] ++ (usF a4 19 21 [])).toArray, []⟩ ∧ St w F e7 a9 [⟨n2, [(.int .i64 t.start), (.slice x0 t.reads.length y0), (.slice x1 t.writes.length y1)], 141⟩] [] ∧ Le F a9 ∧ (k ≤ cs.length) ∧ ((cs.take k).any (fun c : Cm => decide (t.start < c.turn) && c.writes.any (fun w : Wr => t.reads.any fun r => dM r w)) = false)) _ ⟨0, F, _, rfl, rfl, rfl, S8, Le.refl _, (by omega), rfl⟩ ?_
 rintro i0 i1 i2 ⟨k, a9, a4, rfl, -, hfr, b7, a1, hk, hno⟩ i3 b1
 simp only [uzF, Nat.reduceAdd] at hfr; subst hfr
 refine sk fun i4 b2 => ?_
 by_cases c5 : k < cs.length
 refine fA ?_
 refine wn b2 ?_
 refine aF fun i5 c6 => ?_
 refine aK ?_
 refine aI ?_
 refine c6 _ _ ?_
 refine aF fun i6 b3 => ?_
 refine aM ?_
 refine aF fun i7 c7 => ?_
 obtain ⟨p, hp⟩ : ∃ p, cs[k]? = some p := ⟨cs[k], List.getElem?_eq_getElem c5⟩
 obtain ⟨e3, e4, c8, a6, a7, e8, e9, f0⟩ := Cms.get (hl.mono a1) hp
 refine aB ?_
 refine dr (pP e3 (e4 + k * 2)) (bK (i := k) (sz := 2) Tryz.underlying109 (MV _) rfl c8 rfl (by omega) rfl) ?_
 refine dr _ (aE rfl (cU Tryz.underlying168 rfl (eN) (mR (St.fz b7 e8) (St.fz b7 e9)))) ?_
 simp only [pq]
 refine sA b7 (sB _) fun b9 i8 f1 => ?_
 refine sW 0 f1 (eN) fun i9 c0 => ?_
 refine wlK c7 ?_
 refine aF fun j0 c9 => ?_
 refine sk fun j1 b4 => ?_
 refine aC ?_
 by_cases f2 : ((p.turn : Nat) : Int) ≤ t.start
 refine Eu ?_
 refine wn b4 ?_
 refine aK ?_
 refine cS ?_
 refine b3 _ _ ?_
 refine aB ?_
 refine cD (k + 1) ?_
 refine dx ?_
 simp only [pq]
 refine aH ?_
 have c0 := St.drop c0 (.cons _ (List.Sublist.refl _))
 exact b1 _ _ _ (by omega) ⟨(k + 1), a9, _, rfl, rfl, rfl, c0, a1, (by omega), (wR hp hno (Ey (by omega)))⟩
 refine Ev ?_
 refine wn b4 ?_
 refine aG ?_
 refine aI ?_
 refine c9 _ _ ?_
 refine aF fun j2 d0 => ?_
 have hpw := hcs p (List.mem_of_getElem? hp)
 refine aB ?_
 refine aC ?_
 refine wlK d0 ?_
 refine aM ?_
 refine aW (fun mm aa f3 => ∃ (j : Nat) (b5 : Fz) (b0 : Nat → Value), mm = p.writes.length - j ∧ b0 = dY aa ∧ aa = ⟨([(.agg #[(.int .i64 t.start), (.slice x0 t.reads.length y0), (.slice x1 t.writes.length y1)]), (.slice a cs.length c), (pP n2 0), undef, (b0 4), (b0 5), (.int .i64 (txE t)), undef, (pP b9 0), undef, (b0 10), (.agg #[(.int .i64 t.start), (.slice x0 t.reads.length y0), (.slice x1 t.writes.length y1)]), (.int .i64 (txE t)), (.int .i64 (txE t)), bF, undef, (.slice a cs.length c), (nI cs.length), (nI k), bT, (pP e3 (e4 + k * 2)), (.agg #[(nI p.turn), (.slice a6 p.writes.length a7)]), (pP b9 0), (nI p.turn), (pP n2 0), (.int .i64 t.start), bF, (pP b9 1), (.slice a6 p.writes.length a7), (nI p.writes.length), (nI j)] ++ (usF b0 31 8 [(a4 39)])).toArray, []⟩ ∧ St w F f3 b5 [⟨b9, [(nI p.turn), (.slice a6 p.writes.length a7)], 168⟩, ⟨n2, [(.int .i64 t.start), (.slice x0 t.reads.length y0), (.slice x1 t.writes.length y1)], 141⟩] [] ∧ Le a9 b5 ∧ (j ≤ p.writes.length) ∧ ((p.writes.take j).any (fun w : Wr => t.reads.any fun r => dM r w) = false)) _ ⟨0, a9, _, rfl, rfl, rfl, c0, Le.refl _, (by omega), rfl⟩ ?_
 rintro j3 j4 j5 ⟨j, b5, b0, rfl, -, hfr, a5, a2, hj, hnw⟩ j6 d1
 simp only [uzF, Nat.reduceAdd] at hfr; subst hfr
 refine sk fun j7 b6 => ?_
 by_cases d2 : j < p.writes.length
 refine fA ?_
 refine wn b6 ?_
 refine aF fun j8 d3 => ?_
 refine aK ?_
 refine aI ?_
 refine d3 _ _ ?_
 refine aF fun j9 d4 => ?_
 refine aM ?_
 refine aF fun k0 d5 => ?_
 obtain ⟨qq, hq⟩ : ∃ qq, p.writes[j]? = some qq := ⟨p.writes[j], List.getElem?_eq_getElem d2⟩
 obtain ⟨f4, f5, d6, f6, f7, f8, f9, g0, g1, g2, g3, g4, g5, g6, g7, g8⟩ := Wrs.get (f0.mono a2) hq
 refine aB ?_
 refine dr (pP f4 (f5 + j * 4)) (bK (i := j) (sz := 4) Tryz.underlying40 (eT _) rfl d6 rfl (by omega) rfl) ?_
 refine dr _ (aE rfl (cU Tryz.underlying39 rfl (bI) (eL (St.fz a5 g2) (St.fz a5 g3) (St.fz a5 g4) (St.fz a5 g5)))) ?_
 simp only [pq]
 refine sA a5 (kC _) fun c1 k1 g9 => ?_
 refine sW 0 g9 (bI) fun h2 h3 => ?_
 refine wlK d5 ?_
 refine aF fun k2 d7 => ?_
 obtain ⟨e5, a0, a3⟩ := St.freezeBlk h3 (i := 0) rfl
 have h4 : WrP _ c1 qq := ⟨_, _, _, _, _, _, a3 0 _ rfl, a3 1 _ rfl, a3 2 _ rfl, a3 3 _ rfl, (g6.mono a0), (g7.mono a0), (g8.mono a0)⟩
 generalize addF b5 h2 c1 = h5 at *
 refine aB ?_
 refine aC ?_
 refine dr (.func (.func 132) #[] #[(pP c1 0)]) (mJ rfl) ?_
 simp only [pq]
 refine aL (v := (.bool (t.reads.any (fun q => dM q qq)))) e5 rfl (fn2 (GM _ _)) (zC _ _ _ c1 t.reads qq (e5).sat (h0.mono ((a1.trans a2).trans a0)) h4 (by omega)) (fun k3 e6 => ?_)
 refine wlK d7 ?_
 refine wp_cond_split rfl (fun a8 => ?_) (fun a8 => ?_)
 refine sk fun k4 d8 => ?_
 iterate 2 refine dy ?_
 refine wn d8 ?_
 refine aO ?_
 try simp only [xt]
 refine bR (cI rfl (gD rfl) (gD rfl)) ?_
 exact ⟨by unfold BZ jR; rw [if_neg (by omega), QE hp (by (try simp only); rw [decide_eq_true (by omega), QE hq a8]; rfl), mU.2 ht], e6.gr.below⟩
 refine aI ?_
 refine d4 _ _ ?_
 refine aB ?_
 refine cD (j + 1) ?_
 refine dx ?_
 simp only [pq]
 refine aH ?_
 exact d1 _ _ _ (by omega) ⟨(j + 1), h5, _, rfl, rfl, rfl, e6, (a2.trans a0), (by omega), (wR hq hnw (by simpa using a8))⟩
 refine eM ?_
 refine wn b6 ?_
 refine aF fun k5 h6 => ?_
 refine aG ?_
 refine cS ?_
 refine b3 _ _ ?_
 refine aB ?_
 refine cD (k + 1) ?_
 refine dx ?_
 simp only [pq]
 refine aH ?_
 have a5 := St.drop a5 (.cons _ (List.Sublist.refl _))
 exact b1 _ _ _ (by omega) ⟨(k + 1), b5, _, rfl, rfl, rfl, a5, (a1.trans a2), (by omega), (wR hp hno (by (try simp only); rw [HQ (by omega) hnw, Bool.and_false]))⟩
 refine eM ?_
 refine wn b2 ?_
 refine aF fun k6 h7 => ?_
 refine aG ?_
 refine cS ?_
 refine c3 _ _ ?_
 refine sk fun k7 d9 => ?_
 refine aC ?_
 refine wn d9 ?_
 refine aO ?_
 try simp only [xt]
 refine bR (cI rfl (gD rfl) (gD rfl)) ?_
 exact ⟨by unfold BZ jR; rw [if_neg (by omega), HQ (by omega) hno, mU.2 ht], b7.gr.below⟩
 refine mS ?_
 refine wn hK9 ?_
 refine aK ?_
 refine sk fun k8 e2 => ?_
 refine aC ?_
 refine wn e2 ?_
 refine aO ?_
 try simp only [xt]
 refine bR (cI rfl (gD rfl) (gD rfl)) ?_
 exact ⟨by unfold BZ; rw [if_pos c2], S8.gr.below⟩
end Go.Proofs.YtilgpdpooildcaaGreatDoor
