/- Rules, plain laws and walks: T3 S7 T4a T4b T4c P12 K1 K2 K3 -/
import Derived.Test.YtilgpdpooildcaaGreatDoorDA3
import Derived.Test.YtilgpdpooildcaaGreatDoorDA2
namespace Go.Proofs.YtilgpdpooildcaaGreatDoor
set_option maxHeartbeats 8000000
open Go.RowKit
set_option maxRecDepth 100000
set_option linter.unusedVariables false
set_option linter.unusedSimpArgs false
theorem UL (z : Nat) (h : z < 9223372036854775808) (w : World) : (convert 3 132 (.int .i64 (z : Int))).run Tryz.prog w = .ok (.int .u64 (z : Int)) w := by
 have e : IntKind.u64.wrap (z : Int) = (z : Int) := by
  rw [show IntKind.u64.wrap (z : Int) = (z : Int) % 18446744073709551616 from rfl]; omega
 go_simp
theorem UM (z : Nat) (h : z < 9223372036854775808) (w : World) : (convert 132 3 (.int .u64 (z : Int))).run Tryz.prog w = .ok (.int .i64 (z : Int)) w := by
 have e : IntKind.i64.wrap (z : Int) = (z : Int) := lY (by omega) (by omega)
 go_simp
theorem Af (z : Nat) (w : World) (X : TypeId) : (binOp .shr X (.int .u64 (z : Int)) (.int .u64 1)).run Tryz.prog w = .ok (.int .u64 ((z / 2 : Nat) : Int)) w := by
 have e : ((z / 2 : Nat) : Int) = (z : Int) / 2 := by omega
 rw [e]
 go_simp
theorem Ag {P : Program} {ρ : Operand → Value} {w : World} {d : Option Tmp} {t X Y : TypeId} {pos : String} {after : Array Edge} {guard : Option (Nat × Bool)} {x y : Operand} {k k' : IntKind} {m n : Int} {v : Value} {op : BinOp} (hop : op = .shr ∨ op = .shl) (hx : ρ x = .int k m) (hy : ρ y = .int k' n) (h : (binOp op X (.int k m) (.int k' n)).run P w = .ok v w) : (execOp ρ ⟨d, .binOp op X x y Y, t, pos, after, guard⟩).run P w = .ok (.value v) w := by
 have e : (eqGuard op X x y (.int k m) (.int k' n)).run P w = .ok () w := by
  unfold eqGuard
  rcases hop with rfl | rfl <;> rfl
 simp only [execOp, hx, hy, Sem.run_bind, e, Result.andThen_ok, h, Sem.run_pure]
theorem KV {α : Type} {l : List (By × α)} (hr : fS l) {h : Nat} {p : By × α} {k : By} (hp : l[h]? = some p) (hlt : eY p.1 k < 0) : h + 1 ≤ aU l k := by
 obtain ⟨hh, rfl⟩ := List.getElem?_eq_some_iff.1 hp
 rcases Nat.lt_or_ge h (aU l k) with h1 | h1
 ·exact h1
 ·exact absurd (rL.1 hlt) (wO hr h1 hh)
theorem Ah {α : Type} {l : List (By × α)} {h : Nat} {p : By × α} {k : By} (hp : l[h]? = some p) (hge : ¬ eY p.1 k < 0) : aU l k ≤ h := by
 obtain ⟨hh, rfl⟩ := List.getElem?_eq_some_iff.1 hp
 rcases Nat.lt_or_ge h (aU l k) with h1 | h1
 ·exact absurd (rL.2 (wN (f := (·.1)) h1 hh)) hge
 ·exact h1
theorem UN {α : Type} {l : List (By × α)} (hr : fS l) {p : By × α} {k : By} (hp : l[aU l k]? = some p) (h : eY p.1 k = 0) : fD l k = true := by
 obtain ⟨hh, rfl⟩ := List.getElem?_eq_some_iff.1 hp
 exact (iN hr).2 ⟨hh, TI.1 h⟩
theorem RO {α : Type} {l : List (By × α)} (hr : fS l) {p : By × α} {k : By} (hp : l[aU l k]? = some p) (h : ¬ eY p.1 k = 0) : fD l k = false := by
 obtain ⟨hh, rfl⟩ := List.getElem?_eq_some_iff.1 hp
 cases e : fD l k with
 | false => rfl
 | true => obtain ⟨_, h2⟩ := (iN hr).1 e; exact absurd (TI.2 h2) h
theorem KW {α : Type} {l : List (By × α)} (hr : fS l) {k : By} (h : ¬ aU l k < l.length) : fD l k = false := by
 cases e : fD l k with
 | false => rfl
 | true => obtain ⟨h1, _⟩ := (iN hr).1 e; exact absurd h1 h
theorem KX (F : Fz) (w : World) (v u : Value) (l : List Pr) (q : Pr) (hs : Sat w F) (hv : Prs F v l) (hu : Pr2V F u q) (hr : fS l) (hl : l.length ≤ 1000000) :
    Calls Tryz.prog 72 #[v, u, .func (.func 58) #[] #[]] w (cU w (.tuple #[.int .i64 (aU l q.1 : Nat), .bool (fD l q.1)])) := by
 obtain ⟨a, c, rfl, hc1, hc2⟩ := Sl.shape hv
 obtain ⟨x0q, y0q, x1q, y1q, rfl, k0, k1⟩ := hu
 unfold maxLen at hc2
 have S := St.start hs
 go_enter Tryz.func72, Tryz.ntmps72
 refine sk fun K1 hK1 => ?_
 refine bD S (v := fun n => .pointer (aA n 0)) rfl (cB (v := (.agg #[(.slice x0q q.1.length y0q), (.slice x1q q.2.length y1q)])) rfl) (fun n2 w3 S4 => ?_)
 iterate 2 refine dy ?_
 refine wn hK1 ?_
 refine sk fun K5 hK5 => ?_
 refine aC ?_
 refine wn hK5 ?_
 refine sk fun K6 hK6 => ?_
 refine aC ?_
 refine wn hK6 ?_
 refine aE fun K7 hK7 => ?_
 refine aM ?_
 refine bA (fun mm aa w9 => ∃ (i : Nat) (j : Nat) (u8 : Nat → Value), mm = j - i ∧ u8 = dV aa ∧ aa = ⟨([(.slice a l.length c), (.agg #[(.slice x0q q.1.length y0q), (.slice x1q q.2.length y1q)]), (.func (.func 58) #[] #[]), undef, (pP n2 0), undef, (iI 0), bF, (nI l.length), (nI i), (nI j), (u8 11), (.slice a l.length c), (nI l.length), (nI l.length)] ++ (usF u8 15 20 (udF 14 []))).toArray, []⟩ ∧ St w F w9 F [⟨n2, [(.slice x0q q.1.length y0q), (.slice x1q q.2.length y1q)], 50⟩] [] ∧ (i ≤ j) ∧ (j ≤ l.length) ∧ (i ≤ aU l q.1) ∧ (aU l q.1 ≤ j)) _ ⟨0, l.length, _, rfl, rfl, rfl, S4, (by omega), (by omega), (by omega), (kE _ _ _)⟩ ?_
 rintro f1 f2 f3 ⟨i, j, u8, rfl, -, hfr, a0, hij, hj, hip, hjp⟩ f4 a9
 simp only [uzF, Nat.reduceAdd] at hfr; subst hfr
 refine aE fun f5 b9 => ?_
 refine sk fun f6 b0 => ?_
 refine aC ?_
 by_cases d9 : i < j
 ·refine eZ ?_
  refine wn b0 ?_
  refine aJ ?_
  refine aH ?_
  refine b9 _ _ ?_
  refine aM ?_
  refine sk fun f7 c0 => ?_
  iterate 2 refine dx ?_
  refine cO (i + j) ?_
  simp only [pq]
  refine dr (.int .u64 (((i + j) : Nat) : Int)) (bB (v := (nI (i + j))) rfl (UL (i + j) (by omega) _)) ?_
  refine dr (.int .u64 (((i + j) / 2 : Nat) : Int)) (Ag (.inl rfl) rfl rfl (Af (i + j) _ _)) ?_
  refine dr (.int .i64 (((i + j) / 2 : Nat) : Int)) (bB (v := (.int .u64 (((i + j) / 2 : Nat) : Int))) rfl (UM ((i + j) / 2) (by omega) _)) ?_
  simp only [pq]
  refine dy ?_
  refine wn c0 ?_
  refine aE fun f8 b1 => ?_
  obtain ⟨p, hp⟩ : ∃ p, l[(i + j) / 2]? = some p := ⟨l[(i + j) / 2], List.getElem?_eq_getElem (by omega)⟩
  obtain ⟨e0, e3, c1, b2, b3, b4, b5, e4, e5, e6, e7⟩ := Prs.get hv hp
  refine aT F 6 [] (by kernel_rfl) (by kernel_rfl) ?_
  simp only [dD]
  iterate 2 refine gm ?_
  simp only [pq]
  refine gm ?_
  refine gv (pP e0 (e3 + ((i + j) / 2) * 2)) (fun _ _ => bP (i := (i + j) / 2) (sz := 2) Tryz.underlying47 (bL _) rfl c1 rfl (by omega) rfl) ?_
  refine gv _ (fun _ b7 => aD rfl (cN Tryz.underlying50 rfl (dL) (kC (St.fz (St.tells a0 b7) e4) (St.fz (St.tells a0 b7) e5)))) ?_
  simp only [pq]
  refine gv _ (fun _ b7 => aD rfl (cN Tryz.underlying50 rfl (dL) (St.range (St.tells a0 b7) (i := 0) rfl 0 [(.slice x0q q.1.length y0q), (.slice x1q q.2.length y1q)] (dC 0 rfl)))) ?_
  refine bY ?_
  intro f9 c2 c3
  clear c3
  have d1 := St.tells a0 c2
  simp only [dE]
  refine aI (v := (.int .i64 (eY p.1 q.1))) d1 rfl (qQ (fs := #[]) (cs := #[]) (vs := #[(.agg #[(.slice b2 p.1.length b3), (.slice b4 p.2.length b5)]), (.agg #[(.slice x0q q.1.length y0q), (.slice x1q q.2.length y1q)])]) rfl (yX (fs := #[]) (cs := #[]) (xs := #[(.agg #[(.slice b2 p.1.length b3), (.slice b4 p.2.length b5)]), (.agg #[(.slice x0q q.1.length y0q), (.slice x1q q.2.length y1q)])]) (iD rfl rfl) (by simp)) (KR _ _)) (nS _ _ _ _ p q (d1).sat ⟨_, _, _, _, rfl, e6, e7⟩ ⟨_, _, _, _, rfl, k0, k1⟩) (fun g0 d2 => ?_)
  simp only [pq]
  by_cases a5 : (eY p.1 q.1) < (0 : Int)
  ·refine eZ ?_
   refine wlK b1 ?_
   refine aJ ?_
   refine aB ?_
   refine dx ?_
   refine cO ((((i + j) / 2 + 1) : Nat) : Int) ?_
   refine dy ?_
   simp only [pq]
   refine aG ?_
   exact a9 _ _ _ (by omega) ⟨((i + j) / 2 + 1), j, _, rfl, rfl, rfl, d2, (by have := KV hr hp a5; omega), (by omega), (KV hr hp a5), (by omega)⟩
  ·refine eT ?_
   refine wlK b1 ?_
   refine aF ?_
   refine aB ?_
   refine aC ?_
   refine aG ?_
   exact a9 _ _ _ (by omega) ⟨i, (i + j) / 2, _, rfl, rfl, rfl, d2, (by omega), (by omega), (by omega), (Ah hp a5)⟩
 ·refine eT ?_
  refine wn b0 ?_
  refine aF ?_
  refine cV ?_
  refine hK7 _ _ ?_
  refine aE fun g1 a6 => ?_
  by_cases h0 : i < l.length
  ·have hip2 : aU l q.1 = i := by omega
   obtain ⟨p, hp⟩ : ∃ p, l[i]? = some p := ⟨l[i], List.getElem?_eq_getElem h0⟩
   obtain ⟨d3, d4, b6, a1, a2, a3, a4, d5, d6, d7, d8⟩ := Prs.get hv hp
   by_cases c4 : eY p.1 q.1 = 0
   ·refine aT F 15 [(11, .is (.int .i64 (eY p.1 q.1)))] (by kernel_rfl) (by kernel_rfl) ?_
    simp only [dD]
    iterate 2 refine gm ?_
    simp only [pq]
    refine gm ?_
    refine gv bT (fun _ _ => oI (m := ((i : Nat) : Int)) (n := ((l.length : Nat) : Int)) (b := true) rfl rfl (decide_eq_true (by omega))) ?_
    refine gm ?_
    simp only [pq]
    iterate 3 refine gm ?_
    simp only [pq]
    refine gv (pP d3 (d4 + i * 2)) (fun _ _ => bP (i := i) (sz := 2) Tryz.underlying47 (bL _) rfl b6 rfl (by omega) rfl) ?_
    refine gv _ (fun _ a7 => aD rfl (cN Tryz.underlying50 rfl (dL) (kC (St.fz (St.tells a0 a7) d5) (St.fz (St.tells a0 a7) d6)))) ?_
    refine gv _ (fun _ a7 => aD rfl (cN Tryz.underlying50 rfl (dL) (St.range (St.tells a0 a7) (i := 0) rfl 0 [(.slice x0q q.1.length y0q), (.slice x1q q.2.length y1q)] (dC 0 rfl)))) ?_
    simp only [pq]
    refine gY rfl rfl (v := (.int .i64 (eY p.1 q.1))) (fun g2 a7 _ => bO (qQ (fs := #[]) (cs := #[]) (vs := #[(.agg #[(.slice a1 p.1.length a2), (.slice a3 p.2.length a4)]), (.agg #[(.slice x0q q.1.length y0q), (.slice x1q q.2.length y1q)])]) rfl (yX (fs := #[]) (cs := #[]) (xs := #[(.agg #[(.slice a1 p.1.length a2), (.slice a3 p.2.length a4)]), (.agg #[(.slice x0q q.1.length y0q), (.slice x1q q.2.length y1q)])]) (iD rfl rfl) (by simp)) (KR _ _)) (iB (nS _ _ _ _ p q ((St.tells a0 a7)).sat ⟨_, _, _, _, rfl, d7, d8⟩ ⟨_, _, _, _, rfl, k0, k1⟩))) ?_
    refine gv bT (fun _ _ => cF (m := (eY p.1 q.1)) (n := (0 : Int)) (b := true) rfl rfl (beq_iff_eq.2 (by omega))) ?_
    refine gv bT (fun _ _ => pI (b := true) rfl) ?_
    refine ga ?_
    simp only [pq]
    refine bY ?_
    intro g3 c5 c6
    clear c6
    have e8 := St.tells a0 c5
    simp only [dE]
    refine dy ?_
    refine wlK a6 ?_
    refine aP ?_
    try simp only [xt]
    refine bR (cC rfl (gD rfl) (gD rfl)) ?_
    ·have e2 := UN hr (by rw [hip2]; exact hp) c4
     exact ⟨by rw [e2, hip2], e8.gr.below⟩
   ·refine aT F 15 [(11, .is (.int .i64 (eY p.1 q.1)))] (by kernel_rfl) (by kernel_rfl) ?_
    simp only [dD]
    iterate 2 refine gm ?_
    simp only [pq]
    refine gm ?_
    refine gv bT (fun _ _ => oI (m := ((i : Nat) : Int)) (n := ((l.length : Nat) : Int)) (b := true) rfl rfl (decide_eq_true (by omega))) ?_
    refine gm ?_
    simp only [pq]
    iterate 3 refine gm ?_
    simp only [pq]
    refine gv (pP d3 (d4 + i * 2)) (fun _ _ => bP (i := i) (sz := 2) Tryz.underlying47 (bL _) rfl b6 rfl (by omega) rfl) ?_
    refine gv _ (fun _ a8 => aD rfl (cN Tryz.underlying50 rfl (dL) (kC (St.fz (St.tells a0 a8) d5) (St.fz (St.tells a0 a8) d6)))) ?_
    refine gv _ (fun _ a8 => aD rfl (cN Tryz.underlying50 rfl (dL) (St.range (St.tells a0 a8) (i := 0) rfl 0 [(.slice x0q q.1.length y0q), (.slice x1q q.2.length y1q)] (dC 0 rfl)))) ?_
    simp only [pq]
    refine gY rfl rfl (v := (.int .i64 (eY p.1 q.1))) (fun g4 a8 _ => bO (qQ (fs := #[]) (cs := #[]) (vs := #[(.agg #[(.slice a1 p.1.length a2), (.slice a3 p.2.length a4)]), (.agg #[(.slice x0q q.1.length y0q), (.slice x1q q.2.length y1q)])]) rfl (yX (fs := #[]) (cs := #[]) (xs := #[(.agg #[(.slice a1 p.1.length a2), (.slice a3 p.2.length a4)]), (.agg #[(.slice x0q q.1.length y0q), (.slice x1q q.2.length y1q)])]) (iD rfl rfl) (by simp)) (KR _ _)) (iB (nS _ _ _ _ p q ((St.tells a0 a8)).sat ⟨_, _, _, _, rfl, d7, d8⟩ ⟨_, _, _, _, rfl, k0, k1⟩))) ?_
    refine gv bF (fun _ _ => cF (m := (eY p.1 q.1)) (n := (0 : Int)) (b := false) rfl rfl (beq_eq_false_iff_ne.2 (by omega))) ?_
    refine gv bF (fun _ _ => pI (b := true) rfl) ?_
    refine ga ?_
    simp only [pq]
    refine bY ?_
    intro g5 c7 c8
    clear c8
    have e9 := St.tells a0 c7
    simp only [dE]
    refine dy ?_
    refine wlK a6 ?_
    refine aP ?_
    try simp only [xt]
    refine bR (cC rfl (gD rfl) (gD rfl)) ?_
    ·have e1 : aU l q.1 = i := by omega
     have e2 : fD l q.1 = false := by first | exact RO hr (by rw [e1]; assumption) (by assumption) | exact KW hr (by omega)
     exact ⟨by rw [e2, e1], e9.gr.below⟩
  ·refine aT F 15 [] (by kernel_rfl) (by kernel_rfl) ?_
   simp only [dD]
   iterate 2 refine gm ?_
   simp only [pq]
   refine gm ?_
   refine gv bF (fun _ _ => oI (m := ((i : Nat) : Int)) (n := ((l.length : Nat) : Int)) (b := false) rfl rfl (decide_eq_false (by omega))) ?_
   refine gm ?_
   simp only [pq]
   refine dY (cE rfl rfl rfl (c := false) rfl (by decide)) ?_
   simp only [pq]
   refine dY (cE rfl rfl rfl (c := false) rfl (by decide)) ?_
   simp only [pq]
   refine dY (cE rfl rfl rfl (c := false) rfl (by decide)) ?_
   simp only [pq]
   refine dY (cE rfl rfl rfl (c := false) rfl (by decide)) ?_
   simp only [pq]
   refine dY (cE rfl rfl rfl (c := false) rfl (by decide)) ?_
   simp only [pq]
   refine dY (cE rfl rfl rfl (c := false) rfl (by decide)) ?_
   simp only [pq]
   refine dY (cE rfl rfl rfl (c := false) rfl (by decide)) ?_
   simp only [pq]
   refine dY (cE rfl rfl rfl (c := false) rfl (by decide)) ?_
   refine gv bF (fun _ _ => pI (b := false) rfl) ?_
   refine ga ?_
   refine bY ?_
   intro g6 c9 d0
   clear d0
   have f0 := St.tells a0 c9
   simp only [dE]
   refine dy ?_
   simp only [pq]
   refine wlK a6 ?_
   refine aP ?_
   try simp only [xt]
   refine bR (cC rfl (gD rfl) (gD rfl)) ?_
   ·have e1 : aU l q.1 = i := by omega
    have e2 : fD l q.1 = false := by first | exact RO hr (by rw [e1]; assumption) (by assumption) | exact KW hr (by omega)
    exact ⟨by rw [e2, e1], f0.gr.below⟩
theorem qX (F : Fz) (w : World) (v u : Value) (l : List Pr) (k : By) (hs : Sat w F) (hv : Prs F v l) (hu : Bs F u k) (hr : fS l) (hl : l.length ≤ 1000000) :
    Calls Tryz.prog 56 #[v, u] w (cU w (.tuple #[.int .i64 (aU l k : Nat), .bool (fD l k)])) := by
 obtain ⟨a, c, rfl, hc1, hc2⟩ := Sl.shape hv
 obtain ⟨a2, c2, rfl, _⟩ := hu.shape
 have S := St.start hs
 go_enter Tryz.func56, Tryz.ntmps56
 refine sk fun K1 hK1 => ?_
 iterate 2 refine dy ?_
 refine wn hK1 ?_
 refine sk fun K2 hK2 => ?_
 iterate 2 refine dx ?_
 refine dr (.agg #[(.slice a2 k.length c2), Zn]) (aL (cH rfl) (by kernel_rfl)) ?_
 simp only [pq]
 refine aI (v := (.tuple #[(nI (aU l k)), (.bool (fD l k))])) S rfl (fn3 (Ij _ _)) (KX _ _ _ _ l (k, []) (S).sat hv ⟨_, _, _, _, rfl, hu, Bs.nil _⟩ hr (by omega)) (fun w3 S4 => ?_)
 refine aC ?_
 refine wn hK2 ?_
 refine aP ?_
 try simp only [xt]
 refine bR (cC rfl (gD rfl) (gD rfl)) ?_
 exact ⟨rfl, S4.gr.below⟩
def FndV (F : Fz) (u : Value) (o : Option By) : Prop := ∃ a c, u = .agg #[.bool o.isSome, .slice a (o.getD []).length c] ∧ Bs F (.slice a (o.getD []).length c) (o.getD [])
theorem FndV.mono {F F' : Fz} {u : Value} {o : Option By} (h : FndV F u o) (hl : Le F F') : FndV F' u o := by
 obtain ⟨a, c, rfl, h1⟩ := h; exact ⟨a, c, rfl, h1.mono hl⟩
def It (o : Option By) (e : Int) (F : Fz) (u : Value) : Prop := ∃ x, u = .tuple #[x, .int .i64 e] ∧ FndV F x o
theorem Fy {l : List Pr} (hr : fS l) {k : By} {p : Pr} (h : fD l k = true) (hp : l[aU l k]? = some p) : gH l k = some p.2 := by
 obtain ⟨hh, rfl⟩ := List.getElem?_eq_some_iff.1 hp
 obtain ⟨_, h2⟩ := (iN hr).1 h
 have := CF hr (List.getElem_mem hh)
 rw [show l[aU l k].1 = k from h2] at this
 exact this
theorem UO {α : Type} {l : List (By × α)} {k : By} (h : ¬ fD l k = true) : gH l k = none := by
 rw [HV] at h
 cases e : gH l k with
 | none => rfl
 | some _ => rw [e] at h; exact absurd rfl h
theorem DM (F : Fz) (w : World) (v u : Value) (l : List Pr) (k : By) (hs : Sat w F) (hv : Prs F v l) (hu : Bs F u k) (ok1 : TreeOk 60 l) (hk1 : 1 ≤ k.length) (hk2 : k.length ≤ 16) :
    Calls Tryz.prog 39 #[v, u] w (dB w F (It (gH l k) 0)) := by
 have ok := oP.2 ok1
 have okk := gU hk1 hk2
 obtain ⟨a, c, rfl, hc1, hc2⟩ := Sl.shape hv
 obtain ⟨a2, c2, rfl, _⟩ := hu.shape
 have S := St.start hs
 go_enter Tryz.func39, Tryz.ntmps39
 refine sk fun K1 hK1 => ?_
 refine sA S (kL _) fun n2 w3 S4 => ?_
 refine dy ?_
 refine wn hK1 ?_
 refine aE fun K5 hK5 => ?_
 refine sk fun K6 hK6 => ?_
 refine dx ?_
 simp only [pq]
 refine aI (v := (.int .i64 (jG l))) S4 rfl (fn1 (vW _ _)) (iS _ _ _ l (S4).sat hv) (fun w7 S8 => ?_)
 refine dy ?_
 refine wn hK6 ?_
 refine sk fun K9 hK9 => ?_
 refine dx ?_
 refine dr bF (cG (m := (jG l)) (n := (0 : Int)) (b := false) rfl rfl (bne_eq_false_iff_eq.2 (ok))) ?_
 simp only [pq]
 refine wn hK9 ?_
 refine aF ?_
 refine aH ?_
 refine hK5 _ _ ?_
 refine aE fun d0 a3 => ?_
 refine sk fun d1 a4 => ?_
 refine dx ?_
 refine aI (v := (.int .i64 (cJ k.length))) S8 rfl (fn1 (vY _ _)) (eI (iA _ _ _ k hu)) (fun d2 b4 => ?_)
 refine dy ?_
 refine wn a4 ?_
 refine sk fun d3 a5 => ?_
 refine dx ?_
 refine dr bF (cG (m := (cJ k.length)) (n := (0 : Int)) (b := false) rfl rfl (bne_eq_false_iff_eq.2 (okk))) ?_
 simp only [pq]
 refine wn a5 ?_
 refine aF ?_
 refine aH ?_
 refine a3 _ _ ?_
 refine aE fun d4 a6 => ?_
 refine sk fun d5 a7 => ?_
 iterate 2 refine dx ?_
 refine aI (v := (.tuple #[(nI (aU l k)), (.bool (fD l k))])) b4 rfl (fn2 (DK _ _)) (qX _ _ _ _ l k (b4).sat hv hu ok1.rise (by have := ok1.len; omega)) (fun d6 a1 => ?_)
 refine aC ?_
 refine wn a7 ?_
 refine sk fun d7 a8 => ?_
 refine dx ?_
 simp only [pq]
 refine wn a8 ?_
 refine wp_cond_split rfl (fun a0 => ?_) (fun a0 => ?_)
 refine sk fun d8 a9 => ?_
 refine aC ?_
 obtain ⟨hp0, _⟩ := (iN ok1.rise).1 a0
 obtain ⟨p, hp⟩ : ∃ p, l[aU l k]? = some p := ⟨l[aU l k], List.getElem?_eq_getElem hp0⟩
 have hpo := ok1.ok p (List.mem_of_getElem? hp)
 have hpl := hpo.2.2
 obtain ⟨b9, c0, b0, c1, c3, c4, c5, d9, c6, e0, c7⟩ := Prs.get hv hp
 refine dr (pP b9 (c0 + (aU l k) * 2)) (bP (i := (aU l k)) (sz := 2) Tryz.underlying47 (bL _) rfl b0 rfl (hp0) rfl) ?_
 refine df (xE _ _) ?_
 refine dr _ (aD rfl (aW (bI _) (St.fz a1 c6))) ?_
 simp only [pq]
 refine aR a1 rfl (fn1 (gN _ _)) (cZ _ _ _ p.2 (a1).sat c7 (by omega)) ?_
 intro e1 e2 e3 c8 c9 b5
 obtain ⟨b1, b2, rfl, _⟩ := b5.shape
 refine dr (.agg #[bT, (.slice b1 p.2.length b2)]) (aL (fY rfl rfl) (by kernel_rfl)) ?_
 refine sW 0 c8 (fT) fun e4 b6 => ?_
 refine dy ?_
 simp only [pq]
 refine wn a9 ?_
 refine aP ?_
 try simp only [xt]
 refine bR (dN rfl ⟨_, rfl, lR b6 0 Tryz.underlying72 (fT)⟩ (gD rfl)) ?_
 rw [Fy ok1.rise a0 hp]
 exact ⟨_, _, rfl, b6.gr, _, rfl, _, _, rfl, b5⟩
 refine aH ?_
 refine a6 _ _ ?_
 refine sk fun e5 b3 => ?_
 refine dr (.agg #[bF, Zn]) (aL (jF) (by kernel_rfl)) ?_
 refine sW 0 a1 (fT) fun e6 b7 => ?_
 refine dy ?_
 simp only [pq]
 refine wn b3 ?_
 refine aP ?_
 try simp only [xt]
 refine bR (dN rfl ⟨_, rfl, lR b7 0 Tryz.underlying72 (fT)⟩ (gD rfl)) ?_
 rw [UO (by rw [a0]; simp)]
 exact ⟨_, _, rfl, b7.gr, _, rfl, _, _, rfl, Bs.nil _⟩
theorem qY {W w' : World} {a : Addr} {v : Value} (h : Below W.heap.size W w') (hc : W.cell? a = some v) : w'.cell? a = some v := by
 have hlt : a.block < W.heap.size := by
  rcases Nat.lt_or_ge a.block W.heap.size with h' | h'
  ·exact h'
  ·simp [World.cell?, Array.getElem?_eq_none h'] at hc
 rw [← hc]
 unfold World.cell?
 rw [h.block a.block hlt]
section
variable {α : Type} {k E base : Nat} {R : Fz → List Value → α → Prop} {w : World} {F : Fz} {l : List α}
theorem Own.addr0 {a : Option Addr} {n c : Nat} (h : Own k R E base w F (.slice a n c) l) (hl : 0 < l.length) : ∃ g, a = some ⟨g, 0, none⟩ := by
 obtain ⟨g, cap, e, _⟩ := h.form hl
 injection e with e
 exact ⟨g, e⟩
theorem Own.at {a : Option Addr} {n c : Nat} (h : Own k R E base w F (.slice a n c) l) {i : Nat} {p : α} (hp : l[i]? = some p) : ∃ g cs, a = some ⟨g, 0, none⟩ ∧ cs.length = k ∧ R F cs p ∧ w.rangeAt g (i * k) cs := by
 obtain ⟨hi, rfl⟩ := List.getElem?_eq_some_iff.1 hp
 obtain ⟨el, ⟨e1, e2⟩, h2, h3⟩ := h.ex
 have hll := h2.len
 rcases e2 with ⟨e2, h0⟩ | ⟨g, cap, cur, e2, q0, hg, q1, q2, q3, q4⟩
 omega
 injection e2 with e2
 refine ⟨g, el[i]'(by omega), e2, h3 _ (List.getElem_mem _), h2.get i (by omega) hi, fun j u hu => ?_⟩
 have hj : j < k := by
  have := (List.getElem?_eq_some_iff.1 hu).1
  rwa [h3 _ (List.getElem_mem _)] at this
 have hf := lU h3 i (by omega) j hj
 rw [← q4, List.getElem?_take] at hf
 rw [← hf] at hu
 split at hu
 simp only [World.cell?, hg]; simpa using hu
 cases hu
theorem Own.len {a : Option Addr} {n c : Nat} (h : Own k R E base w F (.slice a n c) l) : n = l.length := by
 obtain ⟨a', c', e, _⟩ := h.shape
 injection e
end
theorem Jt {E base : Nat} {w : World} {F : Fz} {l : List (By × List Pr)} {a : Option Addr} {n c : Nat} (h : Own 2 TnC E base w F (.slice a n c) l) {i : Nat} {p : By × List Pr} (hp : l[i]? = some p) :
    ∃ g, a = some ⟨g, 0, none⟩ ∧ ∃ xa xc ya yc, w.cell? ⟨g, 0 + i * 2, none⟩ = some (.slice xa p.1.length xc) ∧ w.cell? ⟨g, 0 + i * 2 + 1, none⟩ = some (.slice ya p.2.length yc) ∧ Bs F (.slice xa p.1.length xc) p.1 ∧ Prs F (.slice ya p.2.length yc) p.2 := by
 obtain ⟨g, cs, e, _, ⟨x, y, rfl, r1, r2⟩, hr⟩ := h.at hp
 obtain ⟨xa, xc, rfl, _⟩ := r1.shape
 obtain ⟨ya, yc, rfl, _⟩ := Sl.shape r2
 refine ⟨g, e, xa, xc, ya, yc, ?_, ?_, r1, r2⟩
 have := hr 0 _ rfl; rw [Nat.zero_add]; simpa using this
 have := hr 1 _ rfl; rw [Nat.zero_add]; simpa using this
theorem IF {P : Program} {w0 w : World} {F0 F : Fz} {L : List Blk} {M : List RowP} {α : Type} {k base E : Nat} {R : Fz → List Value → α → Prop} {hR : ∀ F F' x p, Le F F' → R F x p → R F' x p} {l : List α} {ops : Array Oper} {Q : Exit → Act → World → Prop} {a : Act} {rest : List Oper} {d : Option Tmp} {t T : TypeId} {x y : Operand} {pos : String} {after : Array Edge} {guard : Option (Nat × Bool)} {r g cap i j o n : Nat} {u : Value} {p : α} (S : St w0 F0 w F L M)
    (hw : Region.wanted ⟨d, .store T x y, t, pos, after, guard⟩ (yielded ops a.tmps) = true) (hx : a.eval x = .pointer (some ⟨g, o, none⟩)) (ho : o = i * k + j) (hjk : j < k) (hy : a.eval y = u) (hM : M[r]? = some (bZ k R hR E base (.slice (some ⟨g, 0, none⟩) n cap) l)) (hil : i < l.length)
    (hi : (P.info? T).map (·.size) = some 1) (h1 : u.oneCell' = true) (hu : u.cells = #[u]) (hp : ∀ cs (q : α), l[i]? = some q → R F cs q → R F (cs.set j u) p) (hb : w0.heap.size ≤ base)
    (h : ∀ w', St w0 F0 w' F L (M.set r (bZ k R hR E base (.slice (some ⟨g, 0, none⟩) n cap) (l.set i p))) → WL P ops Q rest (a.put d undef) w') : WL P ops Q (⟨d, .store T x y, t, pos, after, guard⟩ :: rest) a w := by
 obtain ⟨el, ⟨e1, e2⟩, h2, h3⟩ := (S.own hM).ex
 have hll := h2.len
 subst ho
 rcases e2 with ⟨e2, _⟩ | ⟨g', cap', cur, e2, q0, hg, q1, q2, q3, q4⟩
 cases e2
 injection e2 with e2 e2n e2c
 injection e2 with e2
 injection e2 with e2
 subst e2; subst e2n; subst e2c
 have hcl : cur.toList.length = cap * k := by simpa using q3
 have hkl : (i + 1) * k ≤ l.length * k := Nat.mul_le_mul_right k (by omega)
 have hlc : l.length * k ≤ cap * k := Nat.mul_le_mul_right k q1
 rw [Nat.add_mul, Nat.one_mul] at hkl
 have hle : i * k + j + 1 ≤ cur.toList.length := by rw [hcl]; omega
 have ht : w.there g (i * k + j) u.cells.size := by
  intro m hm
  rw [hu] at hm
  simp at hm
  subst hm
  have : i * k + j < cur.size := by simp at hle; omega
  exact ⟨by simp [World.cell?, hg, this], by simp [World.frozen?, hg]⟩
 have hst := JP (P := P) (T := T) (v := u) (by rw [hu]; exact hi) ht (by rw [hu]; simp [h1])
 have hgrown : w.grownBy (w.setCells g (i * k + j) u.cells.toList) (Value.slice (some ⟨g, 0, none⟩) l.length cap).ownBlock := by
  have hb' := lF (B := 0) (Nat.zero_le g) u.cells.toList (i * k + j) w w (Below.refl 0 w)
  exact ⟨hb'.os, hb'.tape, hb'.output, hb'.size, fun b hb1 hb2 => gK _ _ _ (fun e => hb2 (by rw [e]; rfl))⟩
 have hheap := mG (n := g) (T := E) (fr := (0, 0)) u.cells.toList (i * k + j) w cur.toList (by simpa using hg) (by rw [hu]; simpa using hle)
 have hxl : el[i]'(by omega) ∈ el := List.getElem_mem _
 have hel := h3 _ hxl
 have hown : Own k R E base (w.setCells g (i * k + j) u.cells.toList) F (.slice (some ⟨g, 0, none⟩) l.length cap) (l.set i p) := by
  refine ⟨⟨el.set i ((el[i]'(by omega)).set j u), ⟨?_, .inr ⟨g, cap, _, by rw [List.length_set], q0, hheap, by rw [List.length_set]; exact q1, q2, ?_, ?_⟩⟩, NV h2 (hp _ _ (List.getElem?_eq_getElem hil) (h2.get i (by omega) hil)), fun y hy => ?_⟩, (S.own hM).out⟩
  rw [fO (fun y hy => ?_), List.length_set, List.length_set, hll]
  rcases List.mem_or_eq_of_mem_set hy with hy | rfl
  exact h3 y hy
  rw [List.length_set]; exact hel
  rw [List.size_toArray, cI (by rw [hu]; simpa using hle), hcl]
  rw [List.length_set, zW h3 (by omega) (by rw [List.length_set]; exact hel), ← q4]
  have hei : el[i]'(by omega) = (cur.toList.drop (i * k)).take k := by
   have hf : ∀ m, m < k → (el[i]'(by omega))[m]? = cur.toList[i * k + m]? := fun m hm => by
    have := lU h3 i (by omega) m hm
    rw [← this, ← q4, List.getElem?_take, if_pos (by omega)]
   apply List.ext_getElem?
   intro m
   rcases Nat.lt_or_ge m k with hm | hm
   rw [hf m hm, List.getElem?_take, if_pos hm, List.getElem?_drop]
   rw [List.getElem?_eq_none (by omega), List.getElem?_take, if_neg (by omega)]
  rw [hei, hu]
  unfold cA
  have hcl2 : cap * k ≤ cur.toList.length := by omega
  apply List.ext_getElem?
  intro m
  simp only [List.getElem?_append, List.getElem?_take, List.getElem?_drop, List.length_take, List.length_append, List.getElem?_set, List.length_set, List.length_drop, List.length_singleton]
  grind
  rcases List.mem_or_eq_of_mem_set hy with hy | rfl
  exact h3 y hy
  rw [List.length_set]; exact hel
 refine doS hw (wZ hx (by rw [hy]; exact hst)) (h _ (S.grown hM hb hgrown hown (fun g' hg' => .inl hg')))
theorem tS {P : Program} {o : Oper} {a : Act} {W w : World} {F F1 : Fz} {α : Type} {k : Nat} {R : Fz → List Value → α → Prop} {hR : ∀ F F' x p, Le F F' → R F x p → R F' x p} {cs : List Value} {p : α} {E : TypeId} (g : Gr W F w F1) (hp : R F1 cs p) (hk : cs.length = k)
    (hr : (execOp a.eval o).run P w = .ok (.value (.slice (some ⟨w.heap.size, 0, none⟩) 1 1)) (w.alloc (.cells cs.toArray E))) : kZ P o a w (lC (Made W F fun F' u => Sl k R F' u [p]) w) := by
 unfold kZ
 rw [hr]
 have g2 := g.new (.cells cs.toArray E)
 have g3 := g2.add (g := w.heap.size) g.below.size
 have hle : Le F1 (addF F1 (w.alloc (.cells cs.toArray E)) w.heap.size) := fun b o hb => rI _ _ _ _ _ hb
 refine ⟨⟨_, g3, gF (R := R) (l := [p]) (c := cs) (el := [cs]) (fun j v hj => ?_) (by simp) ⟨hR _ _ _ _ hle hp, trivial⟩ (by simpa using hk) (show [p].length ≤ maxLen by simp [maxLen])⟩, (Below.refl _ _).alloc (Nat.le_refl _) _⟩
 unfold bM addF
 rw [g.sat.out (Nat.le_refl _)]
 simp only [if_true, heap_alloc_new]
 simpa using hj
def NewAt (W : World) (cs : List Value) (T : TypeId) (v : Value) (w : World) : Prop := ∃ n, v = .pointer (some ⟨n, 0, none⟩) ∧ W.heap.size ≤ n ∧ w.heap[n]? = some (.cells cs.toArray T (0, 0))
theorem NewAt.stable (W : World) (cs : List Value) (T : TypeId) : ∀ v w w', NewAt W cs T v w → Below w.heap.size w w' → NewAt W cs T v w' := by
 rintro v w w' ⟨n, h1, h2, h3⟩ hb
 exact ⟨n, h1, h2, VM hb h3⟩
theorem iX {P : Program} {d : Option Tmp} {t T : TypeId} {pos : String} {after : Array Edge} {guard : Option (Nat × Bool)} {a : Act} {w W : World} {z : Value} {cs : List Value} (hz : (zeroValue T).run P w = .ok z w) (hc : z.cells = cs.toArray) (hC : Below W.heap.size W w) : kZ P ⟨d, .alloc T, t, pos, after, guard⟩ a w (lC (NewAt W cs T) w) := by
 unfold kZ
 rw [CT hz]
 refine ⟨⟨w.heap.size, rfl, hC.size, ?_⟩, (Below.refl _ _).alloc (Nat.le_refl _) _⟩
 rw [hc]
 exact heap_alloc_new w _
theorem Facts.getR {W : World} {F : Fz} {L : List (Nat × Mark)} {Vs : eX} {w : World} (h : Facts (gI W F L) Vs w) (i : Nat) {v : Value} {R : Value → World → Prop} (hv : Vs i = some v) (hL : gI W F L i = .rel R) : R v w := by
 have := h i v hv
 rw [hL] at this
 exact this
def dropF (F : Fz) (n : Nat) : Fz := fun b => if b = n then none else F b
theorem mP (F : Fz) (n : Nat) : dropF F n n = none := by simp [dropF]
theorem Gr.dropF {W w : World} {F F' : Fz} (g : Gr W F w F') (hs : Sat W F) {n : Nat} (hn : W.heap.size ≤ n) : Gr W F w (dropF F' n) :=
  ⟨g.below, fun b hb => by unfold Proofs.YtilgpdpooildcaaGreatDoor.dropF; rw [if_neg (by omega)]; exact g.old b hb, fun b o hb => by
    unfold Proofs.YtilgpdpooildcaaGreatDoor.dropF at hb
    split at hb
    · cases hb
    · exact g.sat b o hb⟩
theorem Bs.dropF {w : World} {F : Fz} {n : Nat} {cs : List Value} {T : TypeId} (hs : Sat w F) (hb : w.heap[n]? = some (.cells cs.toArray T (0, 0))) (hc : ∀ u ∈ cs, ∀ x, u ≠ bv x) {v : Value} {l : List UInt8} (h : Bs F v l) : Bs (dropF F n) v l := by
 obtain ⟨a, c, h1, h2, h3, h4, h5⟩ := h
 refine ⟨a, c, h1, h2, h3, h4, ?_⟩
 rcases h5 with h5 | ⟨b, o, e, h6⟩
 exact .inl h5
 by_cases hbn : b = n
 cases l with
 | nil => exact .inl rfl
 | cons x l =>
  exfalso
  have h0 := h6 0 (bv x) rfl
  subst hbn
  unfold bM at h0
  split at h0
  rename_i c0 t0 fr0 hF
  have := hs _ _ hF
  rw [hb] at this
  cases this
  have hm : bv x ∈ cs := by
   have : cs[o + 0]? = some (bv x) := by simpa using h0
   exact List.mem_of_getElem? this
  exact hc _ hm x rfl
  cases h0
 refine .inr ⟨b, o, e, fun j u hu => ?_⟩
 have := h6 j u hu
 unfold bM Proofs.YtilgpdpooildcaaGreatDoor.dropF at *
 rw [if_neg hbn]
 exact this
theorem Pr2V.dropF {w : World} {F : Fz} {n : Nat} {cs : List Value} {T : TypeId} (hs : Sat w F) (hb : w.heap[n]? = some (.cells cs.toArray T (0, 0))) (hc : ∀ u ∈ cs, ∀ x, u ≠ bv x) {v : Value} {p : Pr} (h : Pr2V F v p) : Pr2V (Proofs.YtilgpdpooildcaaGreatDoor.dropF F n) v p := by
 obtain ⟨x0, y0, x1, y1, rfl, h0, h1⟩ := h
 exact ⟨x0, y0, x1, y1, rfl, h0.dropF hs hb hc, h1.dropF hs hb hc⟩
theorem WrV.dropF {w : World} {F : Fz} {n : Nat} {cs : List Value} {T : TypeId} (hs : Sat w F) (hb : w.heap[n]? = some (.cells cs.toArray T (0, 0))) (hc : ∀ u ∈ cs, ∀ x, u ≠ bv x) {v : Value} {p : Wr} (h : WrV F v p) : WrV (Proofs.YtilgpdpooildcaaGreatDoor.dropF F n) v p := by
 obtain ⟨x0, y0, x1, y1, x3, y3, rfl, h0, h1, h3⟩ := h
 exact ⟨x0, y0, x1, y1, x3, y3, rfl, h0.dropF hs hb hc, h1.dropF hs hb hc, h3.dropF hs hb hc⟩
theorem RdV.dropF {w : World} {F : Fz} {n : Nat} {cs : List Value} {T : TypeId} (hs : Sat w F) (hb : w.heap[n]? = some (.cells cs.toArray T (0, 0))) (hc : ∀ u ∈ cs, ∀ x, u ≠ bv x) {v : Value} {p : Rd} (h : RdV F v p) : RdV (Proofs.YtilgpdpooildcaaGreatDoor.dropF F n) v p := by
 obtain ⟨x0, y0, x1, y1, x3, y3, rfl, h0, h1, h3⟩ := h
 exact ⟨x0, y0, x1, y1, x3, y3, rfl, h0.dropF hs hb hc, h1.dropF hs hb hc, h3.dropF hs hb hc⟩
theorem hJ {P : Program} {o : Oper} {a : Act} {w : World} {v : Value} {R : Value → World → Prop} (h : (execOp a.eval o).run P w = .ok (.value v) w) (hR : R v w) (hb : Below w.heap.size w w) : kZ P o a w (lC R w) := by
 unfold kZ
 rw [h]
 exact ⟨hR, hb⟩
theorem St.addBlk {w0 W w : World} {F0 F F' : Fz} {L : List Blk} {M : List RowP} (S : St w0 F0 W F L M) (g : Gr W F w F') {n : Nat} {cs : List Value} {T : TypeId} (hn : W.heap.size ≤ n) (hF : F' n = none) (hb : w.heap[n]? = some (.cells cs.toArray T (0, 0))) : St w0 F0 w F' (⟨n, cs, T⟩ :: L) M := by
 have S' := S.gives g
 refine ⟨S'.gr, fun x hx => ?_, S'.row, ?_, fun r hr x hx => ?_, S'.rr⟩
 rcases List.mem_cons.1 hx with rfl | hx
 exact ⟨hb, hF, Nat.le_trans S.gr.below.size hn⟩
 exact S'.blk x hx
 refine List.pairwise_cons.2 ⟨fun y hy => ?_, S'.bb⟩
 have := S.blk_lt hy
 simp only
 omega
 rcases List.mem_cons.1 hx with rfl | hx
 intro e
 have := ((S.row r hr).2 _ e).1
 simp at this
 omega
 exact S'.rb r hr x hx
theorem kU {w : World} {g n : Nat} {c : List Value} {T : TypeId} (h : w.heap[n]? = some (.cells c.toArray T (0, 0))) : w.shape? n = some (T, c.length) ∧ w.frozen? ⟨n, g, none⟩ = false := by
 simp [World.shape?, World.frozen?, h]
theorem KY {w : World} {vn g o la ca lb cb : Nat} {c1 c2 : List Value} {T1 T2 : TypeId} (h1 : w.heap[vn]? = some (.cells c1.toArray T1 (0, 0))) (h2 : w.heap[g]? = some (.cells c2.toArray T2 (0, 0))) (hc : c2.length ≠ 0) (hne : vn ≠ g) :
    (callFunc 73 #[.slice (some ⟨vn, 0, none⟩) la ca, .slice (some ⟨g, o, none⟩) lb cb]).run Tryz.prog w = .ok (.value (.bool false)) w := by
 rw [run_callFunc_extern Tryz.func73 (by kernel_rfl) (by kernel_rfl) (by kernel_rfl) (e := Extern.SlicesOverlaps.overlaps #[47, 47] #[4]) (by kernel_rfl),
  Lib.run_overlaps_apart w 47 4 50 Tryz.underlying47 2 (fun w => bL w) ⟨vn, 0, none⟩ ⟨g, o, none⟩ la ca lb cb hne T1 T2 c1.length c2.length (kU (g := 0) h1).1 (kU (g := 0) h2).1 hc (kU h1).2 (kU h1).2]
 rfl
theorem GG {w0 w : World} {F0 F : Fz} {L0 : List Blk} {M0 : List RowP} {α : Type} {R : Fz → List Value → α → Prop} {hR : ∀ F F' x p, Le F F' → R F x p → R F' x p} {v : Value} {l : List α} {p : α} {vn : Nat} {cs : List Value} (one : ∀ F cs p, R F cs p → ∀ u ∈ cs, u.oneCell' = true)
    (S : St w0 F0 w F (⟨vn, cs, 50⟩ :: L0) (bZ 2 R hR 50 w0.heap.size v l :: M0)) (hcs : cs.length = 2) (hp : R F cs p) (hl : l.length ≤ 100000) :
    Calls Tryz.prog 65 #[v, .int .i64 (l.length : Nat), .slice (some ⟨vn, 0, none⟩) 1 1] w fun e w' => ∃ v', e = .returned v' ∧ St w0 F0 w' F L0 (bZ 2 R hR 50 w0.heap.size v' (l ++ [p]) :: M0) := by
 obtain ⟨a, c, rfl, hc1, hc2⟩ := (S.own (i := 0) rfl).shape
 unfold maxLen at hc2
 obtain ⟨a5, a0, a1, a2, a3⟩ := info_parts nQ
 go_enter Tryz.func65, Tryz.ntmps65
 refine sk fun K1 hK1 => ?_
 refine dy ?_
 refine wn hK1 ?_
 refine sk fun K2 hK2 => ?_
 iterate 2 refine dx ?_
 refine dr (.slice (if c = l.length then a else a.map (·.add (l.length * 2))) (l.length - l.length) (c - l.length)) (bJ (l := l.length) (h := l.length) (sz := 2) Tryz.underlying47 rfl (bL _) (.inr ⟨_, rfl, rfl⟩) (.inl ⟨rfl, rfl⟩) (by omega) (by omega) (rfl)) ?_
 simp only [pq]
 refine wn hK2 ?_
 refine sk fun K3 hK3 => ?_
 refine aC ?_
 refine wn hK3 ?_
 refine aE fun K4 hK4 => ?_
 refine sk fun K5 hK5 => ?_
 refine dx ?_
 refine dr bF (cF (b := false) rfl rfl (by decide)) ?_
 refine wn hK5 ?_
 refine aF ?_
 refine aH ?_
 refine hK4 _ _ ?_
 refine sk fun K6 hK6 => ?_
 refine aC ?_
 refine wn hK6 ?_
 refine aE fun K7 hK7 => ?_
 refine sk fun K8 hK8 => ?_
 iterate 2 refine dx ?_
 refine dr bT (cF (m := ((l.length : Nat) : Int)) (n := ((l.length : Nat) : Int)) (b := true) rfl rfl (beq_iff_eq.2 (rfl))) ?_
 simp only [pq]
 refine wn hK8 ?_
 refine aJ ?_
 refine sk fun K9 hK9 => ?_
 iterate 2 refine dx ?_
 refine eN (i := 0) (r := 0) (p := p) (cs := cs) S rfl a5 (.agg #[Zn, Zn]) 48 Tryz.underlying47 a0 a1 a2 a3 rfl (by decide) rfl rfl rfl rfl hcs (one _ _ _ hp) (hp) (Nat.le_refl _) S.gr.below.size (by unfold maxLen; omega) (by omega) ?_
 intro a7 a8 a4 a6
 simp only [pq]
 have a4 := St.drop a4 (.cons _ (List.Sublist.refl _))
 refine dy ?_
 refine wn hK9 ?_
 refine aP ?_
 try simp only [xt]
 refine bR (bK rfl (gD rfl)) ?_
 exact ⟨_, rfl, a4⟩
theorem GH {g cap i : Nat} {w0 w : World} {F0 F : Fz} {L0 : List Blk} {M0 : List RowP} {α : Type} {R : Fz → List Value → α → Prop} {hR : ∀ F F' x p, Le F F' → R F x p → R F' x p} {l : List α} {p : α} {vn : Nat} {cs : List Value} (one : ∀ F cs p, R F cs p → ∀ u ∈ cs, u.oneCell' = true)
    (S : St w0 F0 w F (⟨vn, cs, 50⟩ :: L0) (bZ 2 R hR 50 w0.heap.size (.slice (some ⟨g, 0, none⟩) l.length cap) l :: M0)) (hcs : cs.length = 2) (hp : R F cs p) (hl : l.length ≤ 100000) (hi : i < l.length) :
    Calls Tryz.prog 65 #[.slice (some ⟨g, 0, none⟩) l.length cap, .int .i64 (i : Nat), .slice (some ⟨vn, 0, none⟩) 1 1] w fun e w' => ∃ v', e = .returned v' ∧ St w0 F0 w' F L0 (bZ 2 R hR 50 w0.heap.size v' (l.take i ++ p :: l.drop i) :: M0) := by
 obtain ⟨d8, a4, a5, a6, a7⟩ := info_parts nQ
 have hvg : vn ≠ g := fun e => S.rb _ (List.mem_cons_self ..) _ (List.mem_cons_self ..) (congrArg some e.symm)
 go_enter Tryz.func65, Tryz.ntmps65
 obtain ⟨c1, el2, S3, hn9, d2, a2, hcl4, htk5, hall6, hlen7, hbg8⟩ := St.rowBlk (r := 0) S rfl
 unfold maxLen at a2
 refine sk fun e8 a8 => ?_
 refine dy ?_
 refine wn a8 ?_
 refine sk fun e9 a9 => ?_
 iterate 2 refine dx ?_
 refine dr (.slice (some ⟨g, i * 2, none⟩) (l.length - i) (cap - i)) (bJ (l := i) (h := l.length) (sz := 2) Tryz.underlying47 rfl (bL _) (.inr ⟨_, rfl, rfl⟩) (.inl ⟨rfl, rfl⟩) (by omega) (by omega) (fG (by omega) rfl rfl (by omega))) ?_
 simp only [pq]
 refine wn a9 ?_
 refine sk fun f0 b0 => ?_
 refine aC ?_
 refine wn b0 ?_
 refine aE fun f1 b1 => ?_
 refine sk fun f2 b2 => ?_
 refine dx ?_
 refine dr bF (cF (b := false) rfl rfl (by decide)) ?_
 refine wn b2 ?_
 refine aF ?_
 refine aH ?_
 refine b1 _ _ ?_
 refine sk fun f3 b3 => ?_
 refine aC ?_
 refine wn b3 ?_
 refine aE fun f4 b4 => ?_
 refine sk fun f5 b5 => ?_
 iterate 2 refine dx ?_
 refine gB ?_
 simp only [pq]
 refine wn b5 ?_
 refine aF ?_
 refine aH ?_
 refine b4 _ _ ?_
 refine aE fun f6 b6 => ?_
 refine sk fun f7 a3 => ?_
 iterate 2 refine dx ?_
 refine cO (l.length + 1) ?_
 simp only [pq]
 refine dx ?_
 refine dr (nI cap) (ZG Tryz.underlying47 rfl) ?_
 simp only [pq]
 by_cases d9 : cap < (l.length + 1)
 refine sX ?_
 refine wn a3 ?_
 refine aJ ?_
 refine sk fun f8 b7 => ?_
 iterate 2 refine dx ?_
 refine dr (.slice (aA g 0) i cap) (bJ (l := 0) (h := i) (sz := 2) Tryz.underlying47 rfl (bL _) (.inl ⟨rfl, rfl⟩) (.inr ⟨_, rfl, rfl⟩) (by omega) (by omega) (gL)) ?_
 simp only [pq]
 iterate 2 refine dx ?_
 refine cO (l.length + 1) ?_
 simp only [pq]
 refine dx ?_
 refine dr (nI ((l.length + 1) - i)) (tL (m := (((l.length + 1) : Nat) : Int)) (n := ((i : Nat) : Int)) (r := ((((l.length + 1) - i) : Nat) : Int)) rfl rfl (by omega) (by omega) (by omega)) ?_
 refine ZD (k := 2) (n := i) (m := l.length + 1 - i) (l.length + 1) (c1.take (i * 2)) S3 rfl d8 (.agg #[Zn, Zn]) 48 Tryz.underlying47 Tryz.underlying3 a4 a5 a6 a7 rfl (by decide) rfl rfl (by omega) (by rw [List.length_take]; omega) (S3.srcT (i := 0) rfl _) (by omega) (by omega) (by unfold maxLen; omega) (by omega) ?_
 intro d3 a0 e0 e1 f9 g0 e2 e3 a1 d4
 unfold maxLen at e2
 refine dy ?_
 simp only [pq]
 refine wn b7 ?_
 refine sk fun g1 b9 => ?_
 iterate 2 refine dx ?_
 refine dr (.slice (some ⟨d3, i * 2, none⟩) ((l.length + 1) - i) (a0 - i)) (bJ (l := i) (h := (l.length + 1)) (sz := 2) Tryz.underlying47 rfl (bL _) (.inr ⟨_, rfl, rfl⟩) (.inl ⟨rfl, rfl⟩) (by omega) (by omega) (fG (by omega) rfl rfl (by omega))) ?_
 simp only [pq]
 refine dx ?_
 refine tM (i := 0) (j := i * 2) 1 cs d4 rfl Tryz.underlying47 dL rfl rfl rfl (Nat.min_eq_left (by omega)) (hcs) (by rw [a1, hcs]; omega) (d4.src0 (i := 2) rfl) (one _ _ _ hp) (fun g2 e4 => ?_)
 refine wn b9 ?_
 refine aE fun g3 c0 => ?_
 refine aT F 8 [] (by kernel_rfl) (by kernel_rfl) ?_
 simp only [dD]
 iterate 2 refine gm ?_
 simp only [pq]
 refine gm ?_
 refine gv (nI (i + 1)) (fun _ _ => iC (m := ((i : Nat) : Int)) (n := (1 : Int)) (r := (((i + 1) : Nat) : Int)) rfl rfl (by omega) (by omega) (by omega)) ?_
 refine gv (.slice (some ⟨d3, (i + 1) * 2, none⟩) ((l.length + 1) - (i + 1)) (a0 - (i + 1))) (fun _ _ => bJ (l := (i + 1)) (h := (l.length + 1)) (sz := 2) Tryz.underlying47 rfl (bL _) (.inr ⟨_, rfl, rfl⟩) (.inl ⟨rfl, rfl⟩) (by omega) (by omega) (fG (by omega) rfl rfl (by omega))) ?_
 simp only [pq]
 iterate 2 refine gm ?_
 refine gv (.slice (some ⟨g, i * 2, none⟩) (l.length - i) (cap - i)) (fun _ _ => bJ (l := i) (h := l.length) (sz := 2) Tryz.underlying47 rfl (bL _) (.inr ⟨_, rfl, rfl⟩) (.inl ⟨rfl, rfl⟩) (by omega) (by omega) (fG (by omega) rfl rfl (by omega))) ?_
 simp only [pq]
 refine bY ?_
 intro g4 c2 c3
 clear c3
 have d5 := St.tells e4 c2
 simp only [dE]
 have hml : ((c1.drop (i * 2)).take ((l.length - i) * 2)).length = (l.length - i) * 2 := by rw [List.length_take, List.length_drop, hcl4]; omega
 refine tM (i := 0) (j := (i + 1) * 2) (l.length - i) ((c1.drop (i * 2)).take ((l.length - i) * 2)) d5 rfl Tryz.underlying47 dL rfl rfl rfl (Nat.min_eq_left (by omega)) (hml) (by rw [cI (by rw [a1, hcs]; omega), a1, hml]; omega) (d5.src (i := 1) rfl _ _) (uQ one hall6 htk5 i) (fun g5 e5 => ?_)
 simp only [pq]
 refine wlK c0 ?_
 refine sk fun g6 c4 => ?_
 refine aC ?_
 refine wn c4 ?_
 refine aP ?_
 try simp only [xt]
 refine bR (bK rfl (gD rfl)) ?_
 have hdrop := St.drop e5 (.cons_cons _ (.cons _ (.cons _ (List.Sublist.refl _))))
 have hll : (l.take i ++ p :: l.drop i).length = l.length + 1 := by rw [List.length_append, List.length_cons, List.length_take, List.length_drop]; omega
 have hrow := St.blkRow (k := 2) (base := w0.heap.size) (R := R) (hR := hR) (l := l.take i ++ p :: l.drop i) (cap := a0) hdrop (el := el2.take i ++ cs :: el2.drop i) (by rw [hll]; exact (CX hlen7 htk5 (by omega) (by rw [hcl4]; omega) e3 hcs)) (pJ hall6 i hp) (rW hlen7 i hcs) (by rw [cI (by rw [cI (by rw [a1, hcs]; omega), a1, hml]; omega), cI (by rw [a1, hcs]; omega), a1]) (by omega) (by unfold maxLen; omega) (hdrop.blk _ (List.mem_cons_self ..)).2.2
 rw [hll] at hrow
 exact ⟨_, rfl, hrow⟩
 refine mO ?_
 simp only [pq]
 refine wn a3 ?_
 refine aF ?_
 refine aH ?_
 refine b6 _ _ ?_
 refine sk fun g7 c5 => ?_
 refine aC ?_
 refine cO (l.length + 1) ?_
 refine dr (.slice (aA g 0) (l.length + 1) cap) (bJ (l := 0) (h := (l.length + 1)) (sz := 2) Tryz.underlying47 rfl (bL _) (.inl ⟨rfl, rfl⟩) (.inr ⟨_, rfl, rfl⟩) (by omega) (by omega) (gL)) ?_
 refine dy ?_
 simp only [pq]
 refine wn c5 ?_
 refine aE fun g8 e6 => ?_
 refine sk fun g9 c6 => ?_
 refine aC ?_
 refine cO (i + 1) ?_
 refine dr (.slice (some ⟨g, (i + 1) * 2, none⟩) ((l.length + 1) - (i + 1)) (cap - (i + 1))) (bJ (l := (i + 1)) (h := (l.length + 1)) (sz := 2) Tryz.underlying47 rfl (bL _) (.inr ⟨_, rfl, rfl⟩) (.inl ⟨rfl, rfl⟩) (by omega) (by omega) (fG (by omega) rfl rfl (by omega))) ?_
 simp only [pq]
 refine dr bF (RC (vs := #[(.slice (aA vn 0) 1 1), (.slice (some ⟨g, (i + 1) * 2, none⟩) ((l.length + 1) - (i + 1)) (cap - (i + 1)))]) (iD rfl rfl) rfl (KY (S3.blk ⟨vn, cs, 50⟩ (by simp)).1 (S3.blk ⟨g, c1, 50⟩ (by simp)).1 (by rw [hcl4]; omega) hvg)) ?_
 refine dt ?_
 refine wn c6 ?_
 refine aJ ?_
 refine aE fun h0 c7 => ?_
 refine aT F 8 [] (by kernel_rfl) (by kernel_rfl) ?_
 simp only [dD]
 refine gm ?_
 simp only [pq]
 iterate 2 refine gm ?_
 refine gv (nI (i + 1)) (fun _ _ => iC (m := ((i : Nat) : Int)) (n := (1 : Int)) (r := (((i + 1) : Nat) : Int)) rfl rfl (by omega) (by omega) (by omega)) ?_
 simp only [pq]
 refine gv (.slice (some ⟨g, (i + 1) * 2, none⟩) ((l.length + 1) - (i + 1)) (cap - (i + 1))) (fun _ _ => bJ (l := (i + 1)) (h := (l.length + 1)) (sz := 2) Tryz.underlying47 rfl (bL _) (.inr ⟨_, rfl, rfl⟩) (.inl ⟨rfl, rfl⟩) (by omega) (by omega) (fG (by omega) rfl rfl (by omega))) ?_
 iterate 2 refine gm ?_
 simp only [pq]
 refine gv (.slice (some ⟨g, i * 2, none⟩) ((l.length + 1) - i) (cap - i)) (fun _ _ => bJ (l := i) (h := (l.length + 1)) (sz := 2) Tryz.underlying47 rfl (bL _) (.inr ⟨_, rfl, rfl⟩) (.inl ⟨rfl, rfl⟩) (by omega) (by omega) (fG (by omega) rfl rfl (by omega))) ?_
 refine bY ?_
 intro h1 c8 c9
 clear c9
 have d6 := St.tells S3 c8
 simp only [dE]
 have hml : ((c1.drop (i * 2)).take ((l.length - i) * 2)).length = (l.length - i) * 2 := by rw [List.length_take, List.length_drop, hcl4]; omega
 refine tM (i := 0) (j := (i + 1) * 2) (l.length - i) ((c1.drop (i * 2)).take ((l.length - i) * 2)) d6 rfl Tryz.underlying47 dL rfl rfl rfl ((Nat.min_eq_right (by omega)).trans (by omega)) (hml) (by rw [hcl4, hml]; omega) (d6.src (i := 0) rfl _ _) (uQ one hall6 htk5 i) (fun h2 d7 => ?_)
 simp only [pq]
 refine wlK c7 ?_
 refine sk fun h3 d0 => ?_
 iterate 2 refine dx ?_
 refine dr (.slice (some ⟨g, i * 2, none⟩) ((l.length + 1) - i) (cap - i)) (bJ (l := i) (h := (l.length + 1)) (sz := 2) Tryz.underlying47 rfl (bL _) (.inr ⟨_, rfl, rfl⟩) (.inl ⟨rfl, rfl⟩) (by omega) (by omega) (fG (by omega) rfl rfl (by omega))) ?_
 simp only [pq]
 refine dx ?_
 refine tM (i := 0) (j := i * 2) 1 cs d7 rfl Tryz.underlying47 dL rfl rfl rfl (Nat.min_eq_left (by omega)) (hcs) (by rw [cI (by rw [hcl4, hml]; omega), hcl4, hcs]; omega) (d7.src0 (i := 1) rfl) (one _ _ _ hp) (fun h4 e7 => ?_)
 refine wn d0 ?_
 refine sk fun h5 d1 => ?_
 refine aC ?_
 refine wn d1 ?_
 refine aP ?_
 try simp only [xt]
 refine bR (bK rfl (gD rfl)) ?_
 have hdrop := St.drop e7 (.cons_cons _ (.cons _ (List.Sublist.refl _)))
 have hll : (l.take i ++ p :: l.drop i).length = l.length + 1 := by rw [List.length_append, List.length_cons, List.length_take, List.length_drop]; omega
 have hrow := St.blkRow (k := 2) (base := w0.heap.size) (R := R) (hR := hR) (l := l.take i ++ p :: l.drop i) (cap := cap) hdrop (el := el2.take i ++ cs :: el2.drop i) (by rw [hll]; exact (HZ hlen7 htk5 (by omega) (by rw [hcl4]; omega) hcs)) (pJ hall6 i hp) (rW hlen7 i hcs) (by rw [cI (by rw [cI (by rw [hcl4, hml]; omega), hcl4, hcs]; omega), cI (by rw [hcl4, hml]; omega), hcl4]) (by omega) (by unfold maxLen; omega) (hdrop.blk _ (List.mem_cons_self ..)).2.2
 rw [hll] at hrow
 exact ⟨_, rfl, hrow⟩
theorem RP {i : Nat} {w0 w : World} {F0 F : Fz} {L0 : List Blk} {M0 : List RowP} {α : Type} {R : Fz → List Value → α → Prop} {hR : ∀ F F' x p, Le F F' → R F x p → R F' x p} {v : Value} {l : List α} {p : α} {vn : Nat} {cs : List Value} (one : ∀ F cs p, R F cs p → ∀ u ∈ cs, u.oneCell' = true)
    (S : St w0 F0 w F (⟨vn, cs, 50⟩ :: L0) (bZ 2 R hR 50 w0.heap.size v l :: M0)) (hcs : cs.length = 2) (hp : R F cs p) (hl : l.length ≤ 100000) (hi : i ≤ l.length) :
    Calls Tryz.prog 65 #[v, .int .i64 (i : Nat), .slice (some ⟨vn, 0, none⟩) 1 1] w fun e w' => ∃ v', e = .returned v' ∧ St w0 F0 w' F L0 (bZ 2 R hR 50 w0.heap.size v' (l.take i ++ p :: l.drop i) :: M0) := by
 rcases Nat.lt_or_ge i l.length with h | h
 ·obtain ⟨g, cap, rfl, _⟩ := (S.own (i := 0) rfl).form (by omega)
  exact GH one S hcs hp hl h
 ·obtain rfl : i = l.length := by omega
  have := GG one S hcs hp hl
  rw [List.take_length, List.drop_length]
  exact this
theorem GI {g cap i : Nat} {w0 w : World} {F0 F : Fz} {L0 : List Blk} {M0 : List RowP} {α : Type} {R : Fz → List Value → α → Prop} {hR : ∀ F F' x p, Le F F' → R F x p → R F' x p} {l : List α} (one : ∀ F cs p, R F cs p → ∀ u ∈ cs, u.oneCell' = true)
    (S : St w0 F0 w F L0 (bZ 2 R hR 50 w0.heap.size (.slice (some ⟨g, 0, none⟩) l.length cap) l :: M0)) (hl : l.length ≤ 100000) (hi : i < l.length) :
    Calls Tryz.prog 63 #[.slice (some ⟨g, 0, none⟩) l.length cap, .int .i64 (i : Nat), .int .i64 ((i + 1 : Nat) : Int)] w fun e w' => ∃ v', e = .returned v' ∧ St w0 F0 w' F L0 (bZ 2 R hR 50 w0.heap.size v' (l.take i ++ l.drop (i + 1)) :: M0) := by
 obtain ⟨b6, a1, b7, a2, b9⟩ := info_parts nQ
 go_enter Tryz.func63, Tryz.ntmps63
 obtain ⟨c1, el2, S3, hn9, b3, a0, hcl4, htk5, hall6, hlen7, hbg8⟩ := St.rowBlk (r := 0) S rfl
 unfold maxLen at a0
 refine sk fun c3 a3 => ?_
 refine dy ?_
 refine wn a3 ?_
 refine sk fun c4 a4 => ?_
 refine aC ?_
 refine dr (.slice (if l.length = i then ((aA g 0) : Option Addr) else ((aA g 0) : Option Addr).map (fun q => Addr.add q (i * 2))) ((i + 1) - i) (l.length - i)) (IB (l := i) (h := (i + 1)) (m := l.length) (sz := 2) Tryz.underlying47 rfl (bL _) rfl rfl rfl (by omega) (by omega) (by omega) rfl) ?_
 simp only [pq]
 refine wn a4 ?_
 refine aE fun c5 a5 => ?_
 refine sk fun c6 a6 => ?_
 iterate 2 refine dx ?_
 refine gB ?_
 simp only [pq]
 refine wn a6 ?_
 refine aF ?_
 refine aH ?_
 refine a5 _ _ ?_
 refine sk fun c7 a7 => ?_
 refine aC ?_
 refine wn a7 ?_
 refine aE fun c8 a8 => ?_
 refine aT F 6 [] (by kernel_rfl) (by kernel_rfl) ?_
 simp only [dD]
 iterate 2 refine gm ?_
 refine gv (.slice (aA g 0) i cap) (fun _ _ => bJ (l := 0) (h := i) (sz := 2) Tryz.underlying47 rfl (bL _) (.inl ⟨rfl, rfl⟩) (.inr ⟨_, rfl, rfl⟩) (by omega) (by omega) (gL)) ?_
 simp only [pq]
 iterate 2 refine gm ?_
 refine gv (.slice (if cap = i + 1 then some ⟨g, 0, none⟩ else some ⟨g, (i + 1) * 2, none⟩) (l.length - (i + 1)) (cap - (i + 1))) (fun _ _ => bJ (l := (i + 1)) (h := l.length) (sz := 2) Tryz.underlying47 rfl (bL _) (.inr ⟨_, rfl, rfl⟩) (.inl ⟨rfl, rfl⟩) (by omega) (by omega) (by rw [show (some (⟨g, 0, none⟩ : Addr)).map (·.add ((i + 1) * 2)) = some ⟨g, (i + 1) * 2, none⟩ from by rw [Option.map_some, Addr.add_mid, Nat.zero_add]])) ?_
 simp only [pq]
 refine bY ?_
 intro c0 a9 b0
 clear b0
 have b4 := St.tells S3 a9
 simp only [dE]
 have hml : ((c1.drop ((i + 1) * 2)).take ((l.length - (i + 1)) * 2)).length = (l.length - (i + 1)) * 2 := by rw [List.length_take, List.length_drop, hcl4]; omega
 have hone := uQ one hall6 htk5 (i + 1)
 have hsrc := b4.src (i := 0) rfl ((i + 1) * 2) ((l.length - (i + 1)) * 2)
 obtain ⟨ad, had, hsrc2⟩ : ∃ ad : Addr, (if cap = i + 1 then some (⟨g, 0, none⟩ : Addr) else some ⟨g, (i + 1) * 2, none⟩) = some ad ∧ ∀ q u, ((c1.drop ((i + 1) * 2)).take ((l.length - (i + 1)) * 2))[q]? = some u → c0.cell? (ad.add q) = some u := by
  by_cases hcc : cap = i + 1
  rw [if_pos hcc]
  refine ⟨_, rfl, fun q u hu => ?_⟩
  have hq := (List.getElem?_eq_some_iff.1 hu).1
  rw [hml] at hq
  omega
  rw [if_neg hcc]
  exact ⟨_, rfl, hsrc⟩
 refine ZE (k := 2) (i := 0) (n := i) (m := l.length - (i + 1)) (ad := ad) (cp := cap - (i + 1)) (l.length - 1) ((c1.drop ((i + 1) * 2)).take ((l.length - (i + 1)) * 2)) b4 rfl b6 Tryz.underlying47 a1 a2 rfl (show _ = _ from by rw [← had]; rfl) rfl hml hsrc2 hone (by omega) (by omega) (by rw [hml, hcl4]; omega) (fun c9 c2 => ?_)
 simp only [pq]
 refine dy ?_
 refine wlK a8 ?_
 refine sk fun d0 b1 => ?_
 refine aC ?_
 refine dr (.slice (some ⟨g, (l.length - 1) * 2, none⟩) 1 (cap - (l.length - 1))) (bJ (l := (l.length - 1)) (h := l.length) (sz := 2) Tryz.underlying47 rfl (bL _) (.inr ⟨_, rfl, rfl⟩) (.inr ⟨_, rfl, rfl⟩) (by omega) (by omega) (fG (by omega) (by omega) rfl (by omega))) ?_
 refine TO (i := 0) (n := 1) (.agg #[Zn, Zn]) [Zn, Zn] c2 rfl Tryz.underlying47 (fun w => uS w) (by kernel_rfl) rfl (by decide) rfl (by rw [cI (by rw [hml, hcl4]; omega), hcl4]; show _ + 2 ≤ _; omega) (by intro u hu; simp only [List.mem_cons, List.not_mem_nil, or_false] at hu; rcases hu with rfl | rfl <;> rfl) (fun d1 b5 => ?_)
 refine wn b1 ?_
 refine sk fun d2 b2 => ?_
 refine aC ?_
 refine wn b2 ?_
 refine aP ?_
 try simp only [xt]
 refine bR (bK rfl (gD rfl)) ?_
 have hll : (l.take i ++ l.drop (i + 1)).length = l.length - 1 := by rw [List.length_append, List.length_take, List.length_drop]; omega
 have hrow := St.blkRow (k := 2) (base := w0.heap.size) (R := R) (hR := hR) (l := l.take i ++ l.drop (i + 1)) (cap := cap) b5 (el := el2.take i ++ el2.drop (i + 1)) (by rw [hll]; exact IA (zs := [(.slice none 0 0), (.slice none 0 0)]) hlen7 htk5 hi (by rw [hcl4]; omega) rfl) (zX hall6 i) (CY hlen7 i) (by rw [cI (by rw [cI (by rw [hml, hcl4]; omega), hcl4]; show _ + 2 ≤ _; omega), cI (by rw [hml, hcl4]; omega), hcl4]) (by omega) (by unfold maxLen; omega) (b5.blk _ (List.mem_cons_self ..)).2.2
 rw [hll] at hrow
 exact ⟨_, rfl, hrow⟩
theorem RQ {i : Nat} {w0 w : World} {F0 F : Fz} {L0 : List Blk} {M0 : List RowP} {α : Type} {R : Fz → List Value → α → Prop} {hR : ∀ F F' x p, Le F F' → R F x p → R F' x p} {v : Value} {l : List α} (one : ∀ F cs p, R F cs p → ∀ u ∈ cs, u.oneCell' = true)
    (S : St w0 F0 w F L0 (bZ 2 R hR 50 w0.heap.size v l :: M0)) (hl : l.length ≤ 100000) (hi : i < l.length) :
    Calls Tryz.prog 63 #[v, .int .i64 (i : Nat), .int .i64 ((i + 1 : Nat) : Int)] w fun e w' => ∃ v', e = .returned v' ∧ St w0 F0 w' F L0 (bZ 2 R hR 50 w0.heap.size v' (l.take i ++ l.drop (i + 1)) :: M0) := by
 obtain ⟨g, cap, rfl, _⟩ := (S.own (i := 0) rfl).form (by omega)
 exact GI one S hl hi
theorem PrC.one (F : Fz) (cs : List Value) (p : Pr) (h : PrC F cs p) : ∀ u ∈ cs, u.oneCell' = true := h.oneCell
def PrsE (r : List Pr) (e : Int) (F : Fz) (u : Value) : Prop := ∃ x, u = .tuple #[x, .int .i64 e] ∧ Prs F x r
theorem PrsE.mono {F F' : Fz} {u : Value} {r : List Pr} {e : Int} (h : PrsE r e F u) (hl : Le F F') : PrsE r e F' u := by
 obtain ⟨x, rfl, h1⟩ := h; exact ⟨x, rfl, h1.mono hl⟩
def vJ (l : List Pr) (p : Pr) : Int := if fU p ≠ 0 then fU p else if 60 < (eV l p.1 p.2).length then 11 else 0
def OE (l : List Pr) (p : Pr) : List Pr := if vJ l p = 0 then eV l p.1 p.2 else []
theorem DN {l : List Pr} {k : By} (h : fD l k = true) : aU l k < l.length := by
 unfold fD zU at h
 rw [List.any_eq_true] at h
 obtain ⟨q, hq, he⟩ := h
 unfold aU lP
 obtain ⟨i, hi, rfl⟩ := List.mem_iff_getElem.1 hq
 have he' : l[i].1 = k := by simpa using he
 have hpre : (l.takeWhile fun p => Op.bytesLess p.1 k).length ≤ i := by
  rcases Nat.lt_or_ge i (l.takeWhile fun p => Op.bytesLess p.1 k).length with h1 | h1
  ·have e : (l.takeWhile fun p => Op.bytesLess p.1 k)[i] = l[i] := (List.takeWhile_prefix _).getElem h1
   have hp := List.all_eq_true.1 (List.all_takeWhile (p := fun p : Pr => Op.bytesLess p.1 k) (l := l)) _ (List.getElem_mem h1)
   rw [e, he', gW] at hp
   cases hp
  ·exact h1
 exact Nat.lt_of_le_of_lt hpre hi
def WF (k : By) : Int := cJ k.length
def WG (l : List Pr) (k : By) : List Pr := if cJ k.length = 0 then gP l k else []
def nC (a b : By) : Int := if cJ a.length ≠ 0 then cJ a.length else cJ b.length
def zB (l : List Pr) (a b : By) : List Pr := if nC a b = 0 then gR l a b else []
theorem DO {l : List Pr} (hr : fS l) (a b : By) : gR l a b = (l.take (max (aU l a) (JN l b))).drop (aU l a) := by
 rw [QZ hr]
 rcases Nat.le_total (aU l a) (JN l b) with h | h
 ·rw [Nat.max_eq_right h]
 ·rw [Nat.max_eq_left h, List.drop_of_length_le, List.drop_of_length_le]
  ·rw [List.length_take]; omega
  ·rw [List.length_take]; omega
theorem DP (F : Fz) (w : World) (v u : Value) (l : List Pr) (p : Pr) (hs : Sat w F) (hv : Prs F v l) (hu : Pr2V F u p) (ok1 : TreeOk 60 l) (hk : p.1.length ≤ 100000) (hx : p.2.length ≤ 100000) :
    Calls Tryz.prog 48 #[v, u] w (dB w F (PrsE (OE l p) (vJ l p))) := by
 have ok := oP.2 ok1
 have a3 := ok1.len
 obtain ⟨a, c, rfl, hc1, hc2⟩ := Sl.shape hv
 obtain ⟨x0, y0, x1, y1, rfl, h0, h1⟩ := hu
 unfold maxLen at hc2
 obtain ⟨g1, d5, d6, d7, d8⟩ := info_parts nQ
 have S := St.start hs
 go_enter Tryz.func48, Tryz.ntmps48
 refine sk fun K1 hK1 => ?_
 refine bD S (v := fun n => .pointer (aA n 0)) rfl (cB (v := (.agg #[(.slice x0 p.1.length y0), (.slice x1 p.2.length y1)])) rfl) (fun n2 w3 S4 => ?_)
 iterate 2 refine dy ?_
 refine wn hK1 ?_
 refine aE fun K5 hK5 => ?_
 refine sk fun K6 hK6 => ?_
 refine dx ?_
 simp only [pq]
 refine aI (v := (.int .i64 (jG l))) S4 rfl (fn1 (vW _ _)) (iS _ _ _ l (S4).sat hv) (fun w7 S8 => ?_)
 refine dy ?_
 refine wn hK6 ?_
 refine sk fun K9 hK9 => ?_
 refine dx ?_
 refine dr bF (cG (m := (jG l)) (n := (0 : Int)) (b := false) rfl rfl (bne_eq_false_iff_eq.2 (ok))) ?_
 simp only [pq]
 refine wn hK9 ?_
 refine aF ?_
 refine aH ?_
 refine hK5 _ _ ?_
 refine aE fun g2 b6 => ?_
 refine sk fun g3 b7 => ?_
 refine dR S8 0 Tryz.underlying50 (dL) ?_
 refine aI (v := (.int .i64 (fU p))) S8 rfl (fn1 (ZY _ _)) (IE _ _ _ p (S8).sat ⟨_, _, _, _, rfl, h0, h1⟩) (fun g4 b9 => ?_)
 refine dy ?_
 refine wn b7 ?_
 refine sk fun g5 a6 => ?_
 refine dx ?_
 simp only [pq]
 by_cases a7 : (fU p) = (0 : Int)
 refine nB ?_
 refine wn a6 ?_
 refine aF ?_
 refine aH ?_
 refine b6 _ _ ?_
 refine sk fun g6 c0 => ?_
 refine dx ?_
 refine oJ PrC.mono b9 rfl (fn1 (KS _ _)) (xN _ _ _ l (b9).sat hv (by have := ok1.len; omega) (fun p hp => ok1.small hp)) ?_
 intro d9 g7 g8 d3 a1
 refine dy ?_
 simp only [pq]
 refine wn c0 ?_
 refine sk fun g9 c1 => ?_
 refine aC ?_
 obtain ⟨h2, c2, c3, a8⟩ := oK d3 (i := 0) rfl
 refine aI (v := (.tuple #[(nI (aU l p.1)), (.bool (fD l p.1))])) d3 rfl (fn2 (DK _ _)) (qX _ _ _ _ l p.1 c2 a8 ((h0.mono a1).mono c3) ok1.rise (by have := ok1.len; omega)) (fun h3 a2 => ?_)
 refine aC ?_
 refine wn c1 ?_
 refine aE fun h4 a9 => ?_
 refine aM ?_
 refine sk fun h5 c4 => ?_
 refine aC ?_
 refine wn c4 ?_
 refine wp_cond_split rfl (fun a0 => ?_) (fun a0 => ?_)
 have hpos0 := DN a0
 obtain ⟨d4, b0, rfl, h6, e0, _⟩ := (a2.own (i := 0) rfl).form (by omega)
 unfold maxLen at e0
 refine aB ?_
 iterate 2 refine dx ?_
 refine dR a2 0 Tryz.underlying50 (dL) ?_
 simp only [pq]
 refine aR a2 rfl (fn1 (RL _ _)) (zA _ _ _ p (a2).sat ⟨_, _, _, _, rfl, (h0.mono a1), (h1.mono a1)⟩ (by omega) (by omega)) ?_
 intro h7 h8 h9 e1 e2 e3
 obtain ⟨c5, c6, c7, c8, rfl, e4, e5⟩ := e3
 simp only [pq]
 have hpos := DN a0
 refine dr (pP d4 (0 + (aU l p.1) * 2)) (bP (i := (aU l p.1)) (sz := 2) Tryz.underlying47 (bL _) rfl rfl rfl (hpos) rfl) ?_
 refine CW (r := 0) (i := (aU l p.1)) (p := p) (u := (.agg #[(.slice c5 p.1.length c6), (.slice c7 p.2.length c8)])) e1 rfl rfl (by omega) rfl rfl (by omega) (dL) (Hk rfl rfl) rfl ⟨_, _, rfl, e4, e5⟩ (Nat.le_refl _) (fun i0 e6 => ?_)
 refine wlK a9 ?_
 refine sk fun i1 c9 => ?_
 refine aC ?_
 refine wn c9 ?_
 refine aP ?_
 try simp only [xt]
 refine bR (cC rfl (gD rfl) (gD rfl)) ?_
 have hpp : fU p = 0 := by omega
 have hlen := jO l p.1 p.2
 have a3 := ok1.len
 rw [if_pos a0] at hlen
 have hput := WE (v := p.2) a0
 have he : vJ l p = 0 := by unfold vJ; rw [if_neg (by omega), if_neg (by omega)]
 unfold OE
 rw [he, if_pos rfl, hput]
 obtain ⟨i2, e7, e8, a4⟩ := St.freeze e6 (i := 0) rfl (Nat.le_refl _)
 have a4 : Prs _ (.slice (some ⟨d4, 0, none⟩) l.length b0) (l.set (aU l p.1) p) := a4
 exact ⟨_, _, rfl, e7.gr, _, rfl, a4⟩
 refine sk fun i3 b1 => ?_
 refine aC ?_
 by_cases e9 : l.length = 60
 refine iQ ?_
 refine dy ?_
 refine wn b1 ?_
 refine aJ ?_
 refine sk fun i4 d0 => ?_
 refine aC ?_
 refine wn d0 ?_
 refine aP ?_
 try simp only [xt]
 refine bR (cC rfl (gD rfl) (gD rfl)) ?_
 have hpp : fU p = 0 := by omega
 have hlen := jO l p.1 p.2
 have a3 := ok1.len
 rw [if_neg (by rw [a0]; simp)] at hlen
 have he : vJ l p = 11 := by unfold vJ; rw [if_neg (by omega), if_pos (by omega)]
 unfold OE
 rw [he, if_neg (by decide)]
 exact ⟨_, _, rfl, a2.gr, _, rfl, Sl.nil _ _ _⟩
 refine gB ?_
 refine dy ?_
 refine wn b1 ?_
 refine aF ?_
 refine aB ?_
 iterate 2 refine dx ?_
 refine dR a2 0 Tryz.underlying50 (dL) ?_
 simp only [pq]
 refine aR a2 rfl (fn1 (RL _ _)) (zA _ _ _ p (a2).sat ⟨_, _, _, _, rfl, (h0.mono a1), (h1.mono a1)⟩ (by omega) (by omega)) ?_
 intro i5 i6 i7 f0 f1 f2
 obtain ⟨b2, b3, b4, b5, rfl, f3, f4⟩ := f2
 refine bD f0 (v := fun n => .slice (aA n 0) 1 1) rfl (bS (ps := #[(0, (.agg #[(.slice b2 p.1.length b3), (.slice b4 p.2.length b5)]))]) (cells := #[(.slice b2 p.1.length b3), (.slice b4 p.2.length b5)]) (E := 50) (cH rfl) (fun w => by kernel_rfl)) (fun f5 i8 f6 => ?_)
 simp only [pq]
 refine xC (L := [⟨n2, [(.slice x0 p.1.length y0), (.slice x1 p.2.length y1)], 50⟩]) (M := fun v_ => [bZ 2 PrC PrC.mono 50 w.heap.size v_ (l.take (aU l p.1) ++ p :: l.drop (aU l p.1))]) rfl (cK (vs := #[d9, (nI (aU l p.1)), (.slice (aA f5 0) 1 1)]) (JS rfl rfl rfl) rfl (If _ _)) (RP (p := p) PrC.one f6 rfl ⟨_, _, rfl, f3, f4⟩ (by omega) (kE _ _ _)) ?_
 intro f7 i9 f8
 refine dy ?_
 refine wlK a9 ?_
 refine sk fun j0 d1 => ?_
 refine aC ?_
 refine wn d1 ?_
 refine aP ?_
 try simp only [xt]
 refine bR (cC rfl (gD rfl) (gD rfl)) ?_
 have hpp : fU p = 0 := by omega
 have hlen := jO l p.1 p.2
 have a3 := ok1.len
 rw [if_neg (by rw [a0]; simp)] at hlen
 have hput := Ae (v := p.2) (by rw [a0]; simp)
 have he : vJ l p = 0 := by unfold vJ; rw [if_neg (by omega), if_neg (by omega)]
 unfold OE
 rw [he, if_pos rfl, hput]
 obtain ⟨j1, f9, g0, a5⟩ := St.freeze f8 (i := 0) rfl (Nat.le_refl _)
 have a5 : Prs _ f7 (l.take (aU l p.1) ++ p :: l.drop (aU l p.1)) := a5
 exact ⟨_, _, rfl, f9.gr, _, rfl, a5⟩
 refine qS ?_
 refine wn a6 ?_
 refine aJ ?_
 refine sk fun j2 d2 => ?_
 refine aC ?_
 refine wn d2 ?_
 refine aP ?_
 try simp only [xt]
 refine bR (cC rfl (gD rfl) (gD rfl)) ?_
 have he : vJ l p = fU p := by unfold vJ; rw [if_pos a7]
 unfold OE
 rw [he, if_neg a7]
 exact ⟨_, _, rfl, b9.gr, _, rfl, Sl.nil _ _ _⟩
theorem zZ (F : Fz) (w : World) (v u : Value) (l : List Pr) (k : By) (hs : Sat w F) (hv : Prs F v l) (hu : Bs F u k) (ok1 : TreeOk 60 l) :
    Calls Tryz.prog 47 #[v, u] w (dB w F (PrsE (WG l k) (WF k))) := by
 have ok := oP.2 ok1
 have c3 := ok1.len
 obtain ⟨a, c, rfl, hc1, hc2⟩ := Sl.shape hv
 obtain ⟨a2, c2, rfl, _⟩ := hu.shape
 unfold maxLen at hc2
 obtain ⟨d4, c4, c5, c6, c7⟩ := info_parts nQ
 have S := St.start hs
 go_enter Tryz.func47, Tryz.ntmps47
 refine sk fun K1 hK1 => ?_
 iterate 2 refine dy ?_
 refine wn hK1 ?_
 refine aE fun K2 hK2 => ?_
 refine sk fun K3 hK3 => ?_
 refine dx ?_
 simp only [pq]
 refine aI (v := (.int .i64 (jG l))) S rfl (fn1 (vW _ _)) (iS _ _ _ l (S).sat hv) (fun w4 S5 => ?_)
 refine dy ?_
 refine wn hK3 ?_
 refine sk fun K6 hK6 => ?_
 refine dx ?_
 refine dr bF (cG (m := (jG l)) (n := (0 : Int)) (b := false) rfl rfl (bne_eq_false_iff_eq.2 (ok))) ?_
 simp only [pq]
 refine wn hK6 ?_
 refine aF ?_
 refine aH ?_
 refine hK2 _ _ ?_
 refine aE fun K7 hK7 => ?_
 refine sk fun K8 hK8 => ?_
 refine dx ?_
 refine aI (v := (.int .i64 (cJ k.length))) S5 rfl (fn1 (vY _ _)) (eI (iA _ _ _ k hu)) (fun w9 a7 => ?_)
 refine dy ?_
 refine wn hK8 ?_
 refine sk fun d5 a4 => ?_
 refine dx ?_
 simp only [pq]
 by_cases a8 : (cJ k.length) = (0 : Int)
 refine nB ?_
 refine wn a4 ?_
 refine aF ?_
 refine aH ?_
 refine hK7 _ _ ?_
 refine sk fun d6 a9 => ?_
 refine dx ?_
 refine oJ PrC.mono a7 rfl (fn1 (KS _ _)) (xN _ _ _ l (a7).sat hv (by have := ok1.len; omega) (fun p hp => ok1.small hp)) ?_
 intro b9 d7 d8 c0 b0
 refine dy ?_
 simp only [pq]
 refine wn a9 ?_
 refine aE fun d9 a5 => ?_
 refine sk fun e0 b1 => ?_
 refine aC ?_
 obtain ⟨e1, b2, b3, a6⟩ := oK c0 (i := 0) rfl
 refine aI (v := (.tuple #[(nI (aU l k)), (.bool (fD l k))])) c0 rfl (fn2 (DK _ _)) (qX _ _ _ _ l k b2 a6 ((hu.mono b0).mono b3) ok1.rise (by have := ok1.len; omega)) (fun e2 c1 => ?_)
 refine aC ?_
 refine wn b1 ?_
 refine sk fun e3 b4 => ?_
 refine dx ?_
 simp only [pq]
 refine wn b4 ?_
 refine wp_cond_split rfl (fun a0 => ?_) (fun a0 => ?_)
 have hpos := DN a0
 refine aB ?_
 refine aC ?_
 refine cO ((aU l k) + 1) ?_
 refine xC (L := []) (M := fun v_ => [bZ 2 PrC PrC.mono 50 w.heap.size v_ (l.take (aU l k) ++ l.drop ((aU l k) + 1))]) rfl (cK (vs := #[b9, (nI (aU l k)), (nI ((aU l k) + 1))]) (JS rfl rfl rfl) rfl (Ie _ _)) (RQ PrC.one c1 (by omega) (hpos)) ?_
 intro c8 e4 c9
 refine dy ?_
 refine wlK a5 ?_
 refine sk fun e5 b5 => ?_
 refine aC ?_
 refine wn b5 ?_
 refine aP ?_
 try simp only [xt]
 refine bR (cC rfl (gD rfl) (gD rfl)) ?_
 have hcc : cJ k.length = 0 := by omega
 unfold WG WF gP
 rw [hcc, if_pos rfl, if_pos a0]
 obtain ⟨e6, d0, d1, a1⟩ := St.freeze c9 (i := 0) rfl (Nat.le_refl _)
 have a1 : Prs _ c8 (l.take (aU l k) ++ l.drop ((aU l k) + 1)) := a1
 exact ⟨_, _, rfl, d0.gr, _, rfl, a1⟩
 refine aH ?_
 refine a5 _ _ ?_
 refine sk fun e7 b6 => ?_
 refine aC ?_
 refine wn b6 ?_
 refine aP ?_
 try simp only [xt]
 refine bR (cC rfl (gD rfl) (gD rfl)) ?_
 have hcc : cJ k.length = 0 := by omega
 unfold WG WF gP
 rw [hcc, if_pos rfl, if_neg (by rw [a0]; simp)]
 obtain ⟨e8, d2, d3, a3⟩ := St.freeze c1 (i := 0) rfl (Nat.le_refl _)
 have a3 : Prs _ b9 l := a3
 exact ⟨_, _, rfl, d2.gr, _, rfl, a3⟩
 refine qS ?_
 refine wn a4 ?_
 refine aJ ?_
 refine sk fun e9 b7 => ?_
 refine aC ?_
 refine wn b7 ?_
 refine aP ?_
 try simp only [xt]
 refine bR (cC rfl (gD rfl) (gD rfl)) ?_
 unfold WG WF
 rw [if_neg a8]
 exact ⟨_, _, rfl, a7.gr, _, rfl, Sl.nil _ _ _⟩
theorem Sl.dropAny {α : Type} {k : Nat} {R : Fz → List Value → α → Prop} {F : Fz} {a : Option Addr} {n c m : Nat} {l : List α} (hk : 0 < k) (h : Sl k R F (.slice a n c) l) (hm : m ≤ n) : Sl k R F (.slice (if c = m then a else a.map (·.add (m * k))) (n - m) (c - m)) (l.drop m) := by
 have hn := Sl.len h
 obtain ⟨el, h1, h2, h3⟩ := h
 obtain ⟨a0, c0, e1, q1, q2, q3, q4⟩ := h1
 injection e1 with e1 e2 e3
 subst e1; subst e3
 have hll := h2.len
 by_cases hmn : m = l.length
 have e : l.drop m = [] := List.drop_of_length_le (by omega)
 have e0 : n - m = 0 := by omega
 rw [e, e0]
 refine ⟨[], ⟨_, c - m, rfl, by simp, by omega, fun e => ?_, .inl rfl⟩, trivial, by simp⟩
 cases a with
 | none => have := q3 rfl; exact ⟨rfl, by omega⟩
 | some ad => split at e <;> cases e
 have hpos : el.flatten ≠ [] := by
  intro e
  have := congrArg List.length e
  rw [fO h3, hll] at this
  have := Nat.mul_pos (show 0 < l.length by omega) hk
  simp at *
  omega
 obtain ⟨b, o, e, hc⟩ := q4.resolve_left hpos
 subst e
 rw [if_neg (by omega)]
 have hs : Sl k R F (.slice (some ⟨b, o, none⟩) n c) l := ⟨el, ⟨_, _, by rw [hn], q1, q2, q3, .inr ⟨b, o, rfl, hc⟩⟩, h2, h3⟩
 have := Sl.dropN (m := m) hs hm rfl rfl
 show Sl k R F (.slice (some (Addr.add ⟨b, o, none⟩ (m * k))) _ _) _
 rw [Addr.add_mid]
 exact this
theorem IG {P : Program} {ρ : Operand → Value} {w : World} {d : Option Tmp} {t X E : TypeId} {n : Nat} {pos : String} {after : Array Edge} {guard : Option (Nat × Bool)} {x y : Operand} {cs : Array Value} {i : Nat} {v : Value} (hX : P.underlying X = some (.array n E)) (hs : (sizeOf E).run P w = .ok 1 w) (hx : ρ x = .agg cs) (hy : ρ y = .int .i64 i) (hi : i < n) (hb : (isAgg E).run P w = .ok false w) (hv : cs[i]? = some v) :
    (execOp ρ ⟨d, .index X x y, t, pos, after, guard⟩).run P w = .ok (.value v) w := by
 have h1 : (0 : Int) ≤ (i : Int) ∧ (i : Int) < (n : Int) := by omega
 simp [execOp, hx, hy, Instr.index, part, Sem.run_bind, run_underlying hX w, asIntOf, hs, h1, hb, hv, hi]
theorem RR (F : Fz) (w : World) (v u z : Value) (l : List Pr) (x y : By) (hs : Sat w F) (hv : Prs F v l) (hx : Bs F u x) (hy : Bs F z y) (ok1 : TreeOk 60 l) :
    Calls Tryz.prog 131 #[v, u, z] w (dB w F (PrsE (zB l x y) (nC x y))) := by
 have ok := oP.2 ok1
 have d1 := ok1.len
 obtain ⟨a, c, rfl, hc1, hc2⟩ := Sl.shape hv
 obtain ⟨a2, c2, rfl, _⟩ := hx.shape
 obtain ⟨a3, c3, rfl, _⟩ := hy.shape
 unfold maxLen at hc2
 obtain ⟨e9, d2, d3, d4, d5⟩ := info_parts nQ
 have S := St.start hs
 go_enter Tryz.func131, Tryz.ntmps131
 refine sk fun K1 hK1 => ?_
 iterate 2 refine dy ?_
 refine wn hK1 ?_
 refine aE fun K2 hK2 => ?_
 refine sk fun K3 hK3 => ?_
 refine dx ?_
 simp only [pq]
 refine aI (v := (.int .i64 (jG l))) S rfl (fn1 (vW _ _)) (iS _ _ _ l (S).sat hv) (fun w4 S5 => ?_)
 refine dy ?_
 refine wn hK3 ?_
 refine sk fun K6 hK6 => ?_
 refine dx ?_
 refine dr bF (cG (m := (jG l)) (n := (0 : Int)) (b := false) rfl rfl (bne_eq_false_iff_eq.2 (ok))) ?_
 simp only [pq]
 refine wn hK6 ?_
 refine aF ?_
 refine aH ?_
 refine hK2 _ _ ?_
 refine aE fun K7 hK7 => ?_
 refine sk fun K8 hK8 => ?_
 iterate 2 refine dx ?_
 refine dr (.agg #[(.slice a2 x.length c2), (.slice a3 y.length c3)]) (aL (fY rfl rfl) (by kernel_rfl)) ?_
 simp only [pq]
 refine dx ?_
 refine wn hK8 ?_
 refine aM ?_
 refine bA (fun mm aa d6 => ∃ (k : Nat) (u9 : Nat → Value), mm = 2 - k ∧ u9 = dV aa ∧ aa = ⟨([(.slice a l.length c), (.slice a2 x.length c2), (.slice a3 y.length c3), undef, undef, undef, (u9 6), (u9 7), (.int .i64 (jG l)), undef, (u9 10), (u9 11)] ++ (udF 4 ([(.slice a l.length c), (.int .i64 (jG l)), (.int .i64 (jG l)), bF, undef, (.slice a2 x.length c2), (.slice a3 y.length c3), (.agg #[(.slice a2 x.length c2), (.slice a3 y.length c3)]), (nI k)] ++ (usF u9 25 8 (udF 22 []))))).toArray, []⟩ ∧ St w F d6 F [] [] ∧ (k ≤ 2) ∧ (1 ≤ k → cJ x.length = 0) ∧ (2 ≤ k → cJ y.length = 0)) _ ⟨0, _, rfl, rfl, rfl, S5, (by omega), (fun h => absurd h (by omega)), (fun h => absurd h (by omega))⟩ ?_
 rintro f0 f1 f2 ⟨k, u9, rfl, -, hfr, b3, hk, hq1, hq2⟩ f3 a6
 simp only [uzF, Nat.reduceAdd] at hfr; subst hfr
 refine sk fun f4 a7 => ?_
 by_cases d7 : k < 2
 refine eZ ?_
 refine wn a7 ?_
 refine aE fun f5 b5 => ?_
 refine aJ ?_
 refine aH ?_
 refine b5 _ _ ?_
 refine aE fun f6 a8 => ?_
 refine aM ?_
 refine aE fun f7 a9 => ?_
 obtain rfl | rfl : k = 0 ∨ k = 1 := by omega
 refine aB ?_
 refine dr (.slice a2 x.length c2) (IG (i := 0) Tryz.underlying230 (iR _) rfl rfl (by decide) (bI _) rfl) ?_
 refine dy ?_
 simp only [pq]
 refine wlK a9 ?_
 refine sk fun f8 b6 => ?_
 refine dx ?_
 refine aI (v := (.int .i64 (cJ x.length))) b3 rfl (fn1 (vY _ _)) (eI (iA _ _ _ x hx)) (fun f9 c8 => ?_)
 refine dy ?_
 refine wn b6 ?_
 refine sk fun g0 b0 => ?_
 refine dx ?_
 simp only [pq]
 by_cases a0 : (cJ x.length) = (0 : Int)
 refine nB ?_
 refine wn b0 ?_
 refine aF ?_
 refine aH ?_
 refine a8 _ _ ?_
 refine aB ?_
 refine cO 1 ?_
 refine dx ?_
 simp only [pq]
 refine aG ?_
 exact a6 _ _ _ (by omega) ⟨1, _, rfl, rfl, rfl, c8, (by omega), (fun _ => by omega), (fun h => absurd h (by omega))⟩
 refine qS ?_
 refine wn b0 ?_
 refine aJ ?_
 refine sk fun g1 b7 => ?_
 refine aC ?_
 refine wn b7 ?_
 refine aP ?_
 try simp only [xt]
 refine bR (cC rfl (gD rfl) (gD rfl)) ?_
 have he : nC x y = cJ x.length := by unfold nC; rw [if_pos a0]
 unfold zB
 rw [he, if_neg a0]
 exact ⟨_, _, rfl, c8.gr, _, rfl, Sl.nil _ _ _⟩
 refine aB ?_
 refine dr (.slice a3 y.length c3) (IG (i := 1) Tryz.underlying230 (iR _) rfl rfl (by decide) (bI _) rfl) ?_
 refine dy ?_
 refine wlK a9 ?_
 refine sk fun g2 b9 => ?_
 refine dx ?_
 simp only [pq]
 refine aI (v := (.int .i64 (cJ y.length))) b3 rfl (fn1 (vY _ _)) (eI (iA _ _ _ y hy)) (fun g3 c9 => ?_)
 refine dy ?_
 refine wn b9 ?_
 refine sk fun g4 b1 => ?_
 refine dx ?_
 simp only [pq]
 by_cases a0 : (cJ y.length) = (0 : Int)
 refine nB ?_
 refine wn b1 ?_
 refine aF ?_
 refine aH ?_
 refine a8 _ _ ?_
 refine aB ?_
 refine cO 2 ?_
 refine dx ?_
 simp only [pq]
 refine aG ?_
 exact a6 _ _ _ (by omega) ⟨2, _, rfl, rfl, rfl, c9, (by omega), (fun _ => hq1 (by omega)), (fun _ => by omega)⟩
 refine qS ?_
 refine wn b1 ?_
 refine aJ ?_
 refine sk fun g5 c0 => ?_
 refine aC ?_
 refine wn c0 ?_
 refine aP ?_
 try simp only [xt]
 refine bR (cC rfl (gD rfl) (gD rfl)) ?_
 have he : nC x y = cJ y.length := by unfold nC; rw [if_neg (by have := hq1 (by omega); omega)]
 unfold zB
 rw [he, if_neg a0]
 exact ⟨_, _, rfl, c9.gr, _, rfl, Sl.nil _ _ _⟩
 refine eT ?_
 refine wn a7 ?_
 refine aE fun g6 d8 => ?_
 refine aF ?_
 refine cV ?_
 refine hK7 _ _ ?_
 refine aE fun g7 c1 => ?_
 have hcx := hq1 (by omega)
 have hcy := hq2 (by omega)
 have hply : aU l y ≤ l.length := kE _ _ _
 refine aB ?_
 refine aC ?_
 refine aI (v := (.tuple #[(nI (aU l x)), (.bool (fD l x))])) b3 rfl (fn2 (DK _ _)) (qX _ _ _ _ l x (b3).sat hv hx ok1.rise (by have := ok1.len; omega)) (fun g8 d0 => ?_)
 refine aC ?_
 refine wlK c1 ?_
 refine sk fun g9 c4 => ?_
 refine aC ?_
 refine aI (v := (.tuple #[(nI (aU l y)), (.bool (fD l y))])) d0 rfl (fn2 (DK _ _)) (qX _ _ _ _ l y (d0).sat hv hy ok1.rise (by have := ok1.len; omega)) (fun h0 b4 => ?_)
 refine aC ?_
 refine wn c4 ?_
 refine aE fun h1 b2 => ?_
 refine sk fun h2 c5 => ?_
 refine dx ?_
 simp only [pq]
 refine wn c5 ?_
 refine wp_cond_split rfl (fun a1 => ?_) (fun a1 => ?_)
 refine aB ?_
 refine dx ?_
 refine cO ((aU l y) + 1) ?_
 refine dy ?_
 simp only [pq]
 refine wlK b2 ?_
 refine aE fun h3 c6 => ?_
 have hend : JN l y = ((aU l y) + 1) := by unfold JN; rw [a1]; simp
 have hel := TJ ok1.rise y
 have hpl : aU l x ≤ l.length := kE _ _ _
 rw [hend] at hel
 refine aB ?_
 refine aC ?_
 refine dr (.int .i64 (((max (aU l x) ((aU l y) + 1)) : Nat) : Int)) (ZH (m := (((aU l x) : Nat) : Int)) (n := ((((aU l y) + 1) : Nat) : Int)) (r := (((max (aU l x) ((aU l y) + 1)) : Nat) : Int)) rfl rfl (by omega)) ?_
 simp only [pq]
 have hcut := Sl.dropAny (m := (aU l x)) (by decide) (Sl.takeN (m := (max (aU l x) ((aU l y) + 1))) hv (by omega)) (by omega)
 refine dr (.slice (if c = (aU l x) then a else a.map (·.add ((aU l x) * 2))) ((max (aU l x) ((aU l y) + 1)) - (aU l x)) (c - (aU l x))) (bJ (l := (aU l x)) (h := (max (aU l x) ((aU l y) + 1))) (sz := 2) Tryz.underlying47 rfl (bL _) (.inr ⟨_, rfl, rfl⟩) (.inr ⟨_, rfl, rfl⟩) (by omega) (by omega) (rfl)) ?_
 refine oJ PrC.mono b4 rfl (cK (vs := #[(.slice (if c = (aU l x) then a else a.map (·.add ((aU l x) * 2))) ((max (aU l x) ((aU l y) + 1)) - (aU l x)) (c - (aU l x)))]) (lG rfl) rfl (KS _ _)) (xN _ _ _ ((l.take (max (aU l x) ((aU l y) + 1))).drop (aU l x)) (b4).sat hcut (by rw [List.length_drop, List.length_take]; omega) (fun p hp => ok1.small (List.mem_of_mem_take (List.mem_of_mem_drop hp)))) ?_
 intro d9 h4 h5 e0 e1
 refine aC ?_
 refine wlK c6 ?_
 refine aP ?_
 try simp only [xt]
 refine bR (cC rfl (gD rfl) (gD rfl)) ?_
 have he : nC x y = 0 := by unfold nC; rw [if_neg (by omega)]; exact hcy
 unfold zB
 rw [he, if_pos rfl, DO ok1.rise, hend]
 obtain ⟨h6, e2, e3, a4⟩ := St.freeze e0 (i := 0) rfl (Nat.le_refl _)
 have a4 : Prs _ d9 ((l.take (max (aU l x) ((aU l y) + 1))).drop (aU l x)) := a4
 exact ⟨_, _, rfl, e2.gr, _, rfl, a4⟩
 refine aH ?_
 refine b2 _ _ ?_
 refine aE fun h7 c7 => ?_
 have hend : JN l y = (aU l y) := by unfold JN; rw [a1]; simp
 have hel := TJ ok1.rise y
 have hpl : aU l x ≤ l.length := kE _ _ _
 rw [hend] at hel
 refine aB ?_
 refine aC ?_
 refine dr (nI (max (aU l x) (aU l y))) (ZH (m := (((aU l x) : Nat) : Int)) (n := (((aU l y) : Nat) : Int)) (r := (((max (aU l x) (aU l y)) : Nat) : Int)) rfl rfl (by omega)) ?_
 simp only [pq]
 have hcut := Sl.dropAny (m := (aU l x)) (by decide) (Sl.takeN (m := (max (aU l x) (aU l y))) hv (by omega)) (by omega)
 refine dr (.slice (if c = (aU l x) then a else a.map (·.add ((aU l x) * 2))) ((max (aU l x) (aU l y)) - (aU l x)) (c - (aU l x))) (bJ (l := (aU l x)) (h := (max (aU l x) (aU l y))) (sz := 2) Tryz.underlying47 rfl (bL _) (.inr ⟨_, rfl, rfl⟩) (.inr ⟨_, rfl, rfl⟩) (by omega) (by omega) (rfl)) ?_
 refine oJ PrC.mono b4 rfl (cK (vs := #[(.slice (if c = (aU l x) then a else a.map (·.add ((aU l x) * 2))) ((max (aU l x) (aU l y)) - (aU l x)) (c - (aU l x)))]) (lG rfl) rfl (KS _ _)) (xN _ _ _ ((l.take (max (aU l x) (aU l y))).drop (aU l x)) (b4).sat hcut (by rw [List.length_drop, List.length_take]; omega) (fun p hp => ok1.small (List.mem_of_mem_take (List.mem_of_mem_drop hp)))) ?_
 intro e4 h8 h9 e5 e6
 refine aC ?_
 refine wlK c7 ?_
 refine aP ?_
 try simp only [xt]
 refine bR (cC rfl (gD rfl) (gD rfl)) ?_
 have he : nC x y = 0 := by unfold nC; rw [if_neg (by omega)]; exact hcy
 unfold zB
 rw [he, if_pos rfl, DO ok1.rise, hend]
 obtain ⟨i0, e7, e8, a5⟩ := St.freeze e5 (i := 0) rfl (Nat.le_refl _)
 have a5 : Prs _ e4 ((l.take (max (aU l x) (aU l y))).drop (aU l x)) := a5
 exact ⟨_, _, rfl, e7.gr, _, rfl, a5⟩
theorem DQ {w : World} {vn g o la ca lb cb : Nat} {c1 c2 : List Value} {T1 T2 : TypeId} (h1 : w.heap[vn]? = some (.cells c1.toArray T1 (0, 0))) (h2 : w.heap[g]? = some (.cells c2.toArray T2 (0, 0))) (hc : c2.length ≠ 0) (hne : vn ≠ g) :
    (callFunc 66 #[.slice (some ⟨vn, 0, none⟩) la ca, .slice (some ⟨g, o, none⟩) lb cb]).run Tryz.prog w = .ok (.value (.bool false)) w := by
 rw [run_callFunc_extern Tryz.func66 (by kernel_rfl) (by kernel_rfl) (by kernel_rfl) (e := Extern.SlicesOverlaps.overlaps #[24, 24] #[4]) (by kernel_rfl),
  Lib.run_overlaps_apart w 24 4 66 Tryz.underlying24 2 (fun w => cX w) ⟨vn, 0, none⟩ ⟨g, o, none⟩ la ca lb cb hne T1 T2 c1.length c2.length (kU (g := 0) h1).1 (kU (g := 0) h2).1 hc (kU h1).2 (kU h1).2]
 rfl
theorem AM {w0 w : World} {F0 F : Fz} {L0 : List Blk} {M0 : List RowP} {α : Type} {R : Fz → List Value → α → Prop} {hR : ∀ F F' x p, Le F F' → R F x p → R F' x p} {v : Value} {l : List α} {p : α} {vn : Nat} {cs : List Value} (one : ∀ F cs p, R F cs p → ∀ u ∈ cs, u.oneCell' = true)
    (S : St w0 F0 w F (⟨vn, cs, 66⟩ :: L0) (bZ 2 R hR 66 w0.heap.size v l :: M0)) (hcs : cs.length = 2) (hp : R F cs p) (hl : l.length ≤ 100000) :
    Calls Tryz.prog 50 #[v, .int .i64 (l.length : Nat), .slice (some ⟨vn, 0, none⟩) 1 1] w fun e w' => ∃ v', e = .returned v' ∧ St w0 F0 w' F L0 (bZ 2 R hR 66 w0.heap.size v' (l ++ [p]) :: M0) := by
 obtain ⟨a, c, rfl, hc1, hc2⟩ := (S.own (i := 0) rfl).shape
 unfold maxLen at hc2
 obtain ⟨a5, a0, a1, a2, a3⟩ := info_parts uT
 go_enter Tryz.func50, Tryz.ntmps50
 refine sk fun K1 hK1 => ?_
 refine dy ?_
 refine wn hK1 ?_
 refine sk fun K2 hK2 => ?_
 iterate 2 refine dx ?_
 refine dr (.slice (if c = l.length then a else a.map (·.add (l.length * 2))) (l.length - l.length) (c - l.length)) (bJ (l := l.length) (h := l.length) (sz := 2) Tryz.underlying24 rfl (cX _) (.inr ⟨_, rfl, rfl⟩) (.inl ⟨rfl, rfl⟩) (by omega) (by omega) (rfl)) ?_
 simp only [pq]
 refine wn hK2 ?_
 refine sk fun K3 hK3 => ?_
 refine aC ?_
 refine wn hK3 ?_
 refine aE fun K4 hK4 => ?_
 refine sk fun K5 hK5 => ?_
 refine dx ?_
 refine dr bF (cF (b := false) rfl rfl (by decide)) ?_
 refine wn hK5 ?_
 refine aF ?_
 refine aH ?_
 refine hK4 _ _ ?_
 refine sk fun K6 hK6 => ?_
 refine aC ?_
 refine wn hK6 ?_
 refine aE fun K7 hK7 => ?_
 refine sk fun K8 hK8 => ?_
 iterate 2 refine dx ?_
 refine dr bT (cF (m := ((l.length : Nat) : Int)) (n := ((l.length : Nat) : Int)) (b := true) rfl rfl (beq_iff_eq.2 (rfl))) ?_
 simp only [pq]
 refine wn hK8 ?_
 refine aJ ?_
 refine sk fun K9 hK9 => ?_
 iterate 2 refine dx ?_
 refine eN (i := 0) (r := 0) (p := p) (cs := cs) S rfl a5 (.agg #[Zn, Zn]) 48 Tryz.underlying24 a0 a1 a2 a3 rfl (by decide) rfl rfl rfl rfl hcs (one _ _ _ hp) (hp) (Nat.le_refl _) S.gr.below.size (by unfold maxLen; omega) (by omega) ?_
 intro a7 a8 a4 a6
 simp only [pq]
 have a4 := St.drop a4 (.cons _ (List.Sublist.refl _))
 refine dy ?_
 refine wn hK9 ?_
 refine aP ?_
 try simp only [xt]
 refine bR (bK rfl (gD rfl)) ?_
 exact ⟨_, rfl, a4⟩
theorem AN {g cap i : Nat} {w0 w : World} {F0 F : Fz} {L0 : List Blk} {M0 : List RowP} {α : Type} {R : Fz → List Value → α → Prop} {hR : ∀ F F' x p, Le F F' → R F x p → R F' x p} {l : List α} {p : α} {vn : Nat} {cs : List Value} (one : ∀ F cs p, R F cs p → ∀ u ∈ cs, u.oneCell' = true)
    (S : St w0 F0 w F (⟨vn, cs, 66⟩ :: L0) (bZ 2 R hR 66 w0.heap.size (.slice (some ⟨g, 0, none⟩) l.length cap) l :: M0)) (hcs : cs.length = 2) (hp : R F cs p) (hl : l.length ≤ 100000) (hi : i < l.length) :
    Calls Tryz.prog 50 #[.slice (some ⟨g, 0, none⟩) l.length cap, .int .i64 (i : Nat), .slice (some ⟨vn, 0, none⟩) 1 1] w fun e w' => ∃ v', e = .returned v' ∧ St w0 F0 w' F L0 (bZ 2 R hR 66 w0.heap.size v' (l.take i ++ p :: l.drop i) :: M0) := by
 obtain ⟨d8, a4, a5, a6, a7⟩ := info_parts uT
 have hvg : vn ≠ g := fun e => S.rb _ (List.mem_cons_self ..) _ (List.mem_cons_self ..) (congrArg some e.symm)
 go_enter Tryz.func50, Tryz.ntmps50
 obtain ⟨c1, el2, S3, hn9, d2, a2, hcl4, htk5, hall6, hlen7, hbg8⟩ := St.rowBlk (r := 0) S rfl
 unfold maxLen at a2
 refine sk fun e8 a8 => ?_
 refine dy ?_
 refine wn a8 ?_
 refine sk fun e9 a9 => ?_
 iterate 2 refine dx ?_
 refine dr (.slice (some ⟨g, i * 2, none⟩) (l.length - i) (cap - i)) (bJ (l := i) (h := l.length) (sz := 2) Tryz.underlying24 rfl (cX _) (.inr ⟨_, rfl, rfl⟩) (.inl ⟨rfl, rfl⟩) (by omega) (by omega) (fG (by omega) rfl rfl (by omega))) ?_
 simp only [pq]
 refine wn a9 ?_
 refine sk fun f0 b0 => ?_
 refine aC ?_
 refine wn b0 ?_
 refine aE fun f1 b1 => ?_
 refine sk fun f2 b2 => ?_
 refine dx ?_
 refine dr bF (cF (b := false) rfl rfl (by decide)) ?_
 refine wn b2 ?_
 refine aF ?_
 refine aH ?_
 refine b1 _ _ ?_
 refine sk fun f3 b3 => ?_
 refine aC ?_
 refine wn b3 ?_
 refine aE fun f4 b4 => ?_
 refine sk fun f5 b5 => ?_
 iterate 2 refine dx ?_
 refine gB ?_
 simp only [pq]
 refine wn b5 ?_
 refine aF ?_
 refine aH ?_
 refine b4 _ _ ?_
 refine aE fun f6 b6 => ?_
 refine sk fun f7 a3 => ?_
 iterate 2 refine dx ?_
 refine cO (l.length + 1) ?_
 simp only [pq]
 refine dx ?_
 refine dr (nI cap) (ZG Tryz.underlying24 rfl) ?_
 simp only [pq]
 by_cases d9 : cap < (l.length + 1)
 refine sX ?_
 refine wn a3 ?_
 refine aJ ?_
 refine sk fun f8 b7 => ?_
 iterate 2 refine dx ?_
 refine dr (.slice (aA g 0) i cap) (bJ (l := 0) (h := i) (sz := 2) Tryz.underlying24 rfl (cX _) (.inl ⟨rfl, rfl⟩) (.inr ⟨_, rfl, rfl⟩) (by omega) (by omega) (gL)) ?_
 simp only [pq]
 iterate 2 refine dx ?_
 refine cO (l.length + 1) ?_
 simp only [pq]
 refine dx ?_
 refine dr (nI ((l.length + 1) - i)) (tL (m := (((l.length + 1) : Nat) : Int)) (n := ((i : Nat) : Int)) (r := ((((l.length + 1) - i) : Nat) : Int)) rfl rfl (by omega) (by omega) (by omega)) ?_
 refine ZD (k := 2) (n := i) (m := l.length + 1 - i) (l.length + 1) (c1.take (i * 2)) S3 rfl d8 (.agg #[Zn, Zn]) 48 Tryz.underlying24 Tryz.underlying3 a4 a5 a6 a7 rfl (by decide) rfl rfl (by omega) (by rw [List.length_take]; omega) (S3.srcT (i := 0) rfl _) (by omega) (by omega) (by unfold maxLen; omega) (by omega) ?_
 intro d3 a0 e0 e1 f9 g0 e2 e3 a1 d4
 unfold maxLen at e2
 refine dy ?_
 simp only [pq]
 refine wn b7 ?_
 refine sk fun g1 b9 => ?_
 iterate 2 refine dx ?_
 refine dr (.slice (some ⟨d3, i * 2, none⟩) ((l.length + 1) - i) (a0 - i)) (bJ (l := i) (h := (l.length + 1)) (sz := 2) Tryz.underlying24 rfl (cX _) (.inr ⟨_, rfl, rfl⟩) (.inl ⟨rfl, rfl⟩) (by omega) (by omega) (fG (by omega) rfl rfl (by omega))) ?_
 simp only [pq]
 refine dx ?_
 refine tM (i := 0) (j := i * 2) 1 cs d4 rfl Tryz.underlying24 jL rfl rfl rfl (Nat.min_eq_left (by omega)) (hcs) (by rw [a1, hcs]; omega) (d4.src0 (i := 2) rfl) (one _ _ _ hp) (fun g2 e4 => ?_)
 refine wn b9 ?_
 refine aE fun g3 c0 => ?_
 refine aT F 8 [] (by kernel_rfl) (by kernel_rfl) ?_
 simp only [dD]
 iterate 2 refine gm ?_
 simp only [pq]
 refine gm ?_
 refine gv (nI (i + 1)) (fun _ _ => iC (m := ((i : Nat) : Int)) (n := (1 : Int)) (r := (((i + 1) : Nat) : Int)) rfl rfl (by omega) (by omega) (by omega)) ?_
 refine gv (.slice (some ⟨d3, (i + 1) * 2, none⟩) ((l.length + 1) - (i + 1)) (a0 - (i + 1))) (fun _ _ => bJ (l := (i + 1)) (h := (l.length + 1)) (sz := 2) Tryz.underlying24 rfl (cX _) (.inr ⟨_, rfl, rfl⟩) (.inl ⟨rfl, rfl⟩) (by omega) (by omega) (fG (by omega) rfl rfl (by omega))) ?_
 simp only [pq]
 iterate 2 refine gm ?_
 refine gv (.slice (some ⟨g, i * 2, none⟩) (l.length - i) (cap - i)) (fun _ _ => bJ (l := i) (h := l.length) (sz := 2) Tryz.underlying24 rfl (cX _) (.inr ⟨_, rfl, rfl⟩) (.inl ⟨rfl, rfl⟩) (by omega) (by omega) (fG (by omega) rfl rfl (by omega))) ?_
 simp only [pq]
 refine bY ?_
 intro g4 c2 c3
 clear c3
 have d5 := St.tells e4 c2
 simp only [dE]
 have hml : ((c1.drop (i * 2)).take ((l.length - i) * 2)).length = (l.length - i) * 2 := by rw [List.length_take, List.length_drop, hcl4]; omega
 refine tM (i := 0) (j := (i + 1) * 2) (l.length - i) ((c1.drop (i * 2)).take ((l.length - i) * 2)) d5 rfl Tryz.underlying24 jL rfl rfl rfl (Nat.min_eq_left (by omega)) (hml) (by rw [cI (by rw [a1, hcs]; omega), a1, hml]; omega) (d5.src (i := 1) rfl _ _) (uQ one hall6 htk5 i) (fun g5 e5 => ?_)
 simp only [pq]
 refine wlK c0 ?_
 refine sk fun g6 c4 => ?_
 refine aC ?_
 refine wn c4 ?_
 refine aP ?_
 try simp only [xt]
 refine bR (bK rfl (gD rfl)) ?_
 have hdrop := St.drop e5 (.cons_cons _ (.cons _ (.cons _ (List.Sublist.refl _))))
 have hll : (l.take i ++ p :: l.drop i).length = l.length + 1 := by rw [List.length_append, List.length_cons, List.length_take, List.length_drop]; omega
 have hrow := St.blkRow (k := 2) (base := w0.heap.size) (R := R) (hR := hR) (l := l.take i ++ p :: l.drop i) (cap := a0) hdrop (el := el2.take i ++ cs :: el2.drop i) (by rw [hll]; exact (CX hlen7 htk5 (by omega) (by rw [hcl4]; omega) e3 hcs)) (pJ hall6 i hp) (rW hlen7 i hcs) (by rw [cI (by rw [cI (by rw [a1, hcs]; omega), a1, hml]; omega), cI (by rw [a1, hcs]; omega), a1]) (by omega) (by unfold maxLen; omega) (hdrop.blk _ (List.mem_cons_self ..)).2.2
 rw [hll] at hrow
 exact ⟨_, rfl, hrow⟩
 refine mO ?_
 simp only [pq]
 refine wn a3 ?_
 refine aF ?_
 refine aH ?_
 refine b6 _ _ ?_
 refine sk fun g7 c5 => ?_
 refine aC ?_
 refine cO (l.length + 1) ?_
 refine dr (.slice (aA g 0) (l.length + 1) cap) (bJ (l := 0) (h := (l.length + 1)) (sz := 2) Tryz.underlying24 rfl (cX _) (.inl ⟨rfl, rfl⟩) (.inr ⟨_, rfl, rfl⟩) (by omega) (by omega) (gL)) ?_
 refine dy ?_
 simp only [pq]
 refine wn c5 ?_
 refine aE fun g8 e6 => ?_
 refine sk fun g9 c6 => ?_
 refine aC ?_
 refine cO (i + 1) ?_
 refine dr (.slice (some ⟨g, (i + 1) * 2, none⟩) ((l.length + 1) - (i + 1)) (cap - (i + 1))) (bJ (l := (i + 1)) (h := (l.length + 1)) (sz := 2) Tryz.underlying24 rfl (cX _) (.inr ⟨_, rfl, rfl⟩) (.inl ⟨rfl, rfl⟩) (by omega) (by omega) (fG (by omega) rfl rfl (by omega))) ?_
 simp only [pq]
 refine dr bF (RC (vs := #[(.slice (aA vn 0) 1 1), (.slice (some ⟨g, (i + 1) * 2, none⟩) ((l.length + 1) - (i + 1)) (cap - (i + 1)))]) (iD rfl rfl) rfl (DQ (S3.blk ⟨vn, cs, 66⟩ (by simp)).1 (S3.blk ⟨g, c1, 66⟩ (by simp)).1 (by rw [hcl4]; omega) hvg)) ?_
 refine dt ?_
 refine wn c6 ?_
 refine aJ ?_
 refine aE fun h0 c7 => ?_
 refine aT F 8 [] (by kernel_rfl) (by kernel_rfl) ?_
 simp only [dD]
 refine gm ?_
 simp only [pq]
 iterate 2 refine gm ?_
 refine gv (nI (i + 1)) (fun _ _ => iC (m := ((i : Nat) : Int)) (n := (1 : Int)) (r := (((i + 1) : Nat) : Int)) rfl rfl (by omega) (by omega) (by omega)) ?_
 simp only [pq]
 refine gv (.slice (some ⟨g, (i + 1) * 2, none⟩) ((l.length + 1) - (i + 1)) (cap - (i + 1))) (fun _ _ => bJ (l := (i + 1)) (h := (l.length + 1)) (sz := 2) Tryz.underlying24 rfl (cX _) (.inr ⟨_, rfl, rfl⟩) (.inl ⟨rfl, rfl⟩) (by omega) (by omega) (fG (by omega) rfl rfl (by omega))) ?_
 iterate 2 refine gm ?_
 simp only [pq]
 refine gv (.slice (some ⟨g, i * 2, none⟩) ((l.length + 1) - i) (cap - i)) (fun _ _ => bJ (l := i) (h := (l.length + 1)) (sz := 2) Tryz.underlying24 rfl (cX _) (.inr ⟨_, rfl, rfl⟩) (.inl ⟨rfl, rfl⟩) (by omega) (by omega) (fG (by omega) rfl rfl (by omega))) ?_
 refine bY ?_
 intro h1 c8 c9
 clear c9
 have d6 := St.tells S3 c8
 simp only [dE]
 have hml : ((c1.drop (i * 2)).take ((l.length - i) * 2)).length = (l.length - i) * 2 := by rw [List.length_take, List.length_drop, hcl4]; omega
 refine tM (i := 0) (j := (i + 1) * 2) (l.length - i) ((c1.drop (i * 2)).take ((l.length - i) * 2)) d6 rfl Tryz.underlying24 jL rfl rfl rfl ((Nat.min_eq_right (by omega)).trans (by omega)) (hml) (by rw [hcl4, hml]; omega) (d6.src (i := 0) rfl _ _) (uQ one hall6 htk5 i) (fun h2 d7 => ?_)
 simp only [pq]
 refine wlK c7 ?_
 refine sk fun h3 d0 => ?_
 iterate 2 refine dx ?_
 refine dr (.slice (some ⟨g, i * 2, none⟩) ((l.length + 1) - i) (cap - i)) (bJ (l := i) (h := (l.length + 1)) (sz := 2) Tryz.underlying24 rfl (cX _) (.inr ⟨_, rfl, rfl⟩) (.inl ⟨rfl, rfl⟩) (by omega) (by omega) (fG (by omega) rfl rfl (by omega))) ?_
 simp only [pq]
 refine dx ?_
 refine tM (i := 0) (j := i * 2) 1 cs d7 rfl Tryz.underlying24 jL rfl rfl rfl (Nat.min_eq_left (by omega)) (hcs) (by rw [cI (by rw [hcl4, hml]; omega), hcl4, hcs]; omega) (d7.src0 (i := 1) rfl) (one _ _ _ hp) (fun h4 e7 => ?_)
 refine wn d0 ?_
 refine sk fun h5 d1 => ?_
 refine aC ?_
 refine wn d1 ?_
 refine aP ?_
 try simp only [xt]
 refine bR (bK rfl (gD rfl)) ?_
 have hdrop := St.drop e7 (.cons_cons _ (.cons _ (List.Sublist.refl _)))
 have hll : (l.take i ++ p :: l.drop i).length = l.length + 1 := by rw [List.length_append, List.length_cons, List.length_take, List.length_drop]; omega
 have hrow := St.blkRow (k := 2) (base := w0.heap.size) (R := R) (hR := hR) (l := l.take i ++ p :: l.drop i) (cap := cap) hdrop (el := el2.take i ++ cs :: el2.drop i) (by rw [hll]; exact (HZ hlen7 htk5 (by omega) (by rw [hcl4]; omega) hcs)) (pJ hall6 i hp) (rW hlen7 i hcs) (by rw [cI (by rw [cI (by rw [hcl4, hml]; omega), hcl4, hcs]; omega), cI (by rw [hcl4, hml]; omega), hcl4]) (by omega) (by unfold maxLen; omega) (hdrop.blk _ (List.mem_cons_self ..)).2.2
 rw [hll] at hrow
 exact ⟨_, rfl, hrow⟩
theorem xO {i : Nat} {w0 w : World} {F0 F : Fz} {L0 : List Blk} {M0 : List RowP} {α : Type} {R : Fz → List Value → α → Prop} {hR : ∀ F F' x p, Le F F' → R F x p → R F' x p} {v : Value} {l : List α} {p : α} {vn : Nat} {cs : List Value} (one : ∀ F cs p, R F cs p → ∀ u ∈ cs, u.oneCell' = true)
    (S : St w0 F0 w F (⟨vn, cs, 66⟩ :: L0) (bZ 2 R hR 66 w0.heap.size v l :: M0)) (hcs : cs.length = 2) (hp : R F cs p) (hl : l.length ≤ 100000) (hi : i ≤ l.length) :
    Calls Tryz.prog 50 #[v, .int .i64 (i : Nat), .slice (some ⟨vn, 0, none⟩) 1 1] w fun e w' => ∃ v', e = .returned v' ∧ St w0 F0 w' F L0 (bZ 2 R hR 66 w0.heap.size v' (l.take i ++ p :: l.drop i) :: M0) := by
 rcases Nat.lt_or_ge i l.length with h | h
 ·obtain ⟨g, cap, rfl, _⟩ := (S.own (i := 0) rfl).form (by omega)
  exact AN one S hcs hp hl h
 ·obtain rfl : i = l.length := by omega
  have := AM one S hcs hp hl
  rw [List.take_length, List.drop_length]
  exact this
theorem AO {g cap i : Nat} {w0 w : World} {F0 F : Fz} {L0 : List Blk} {M0 : List RowP} {α : Type} {R : Fz → List Value → α → Prop} {hR : ∀ F F' x p, Le F F' → R F x p → R F' x p} {l : List α} (one : ∀ F cs p, R F cs p → ∀ u ∈ cs, u.oneCell' = true)
    (S : St w0 F0 w F L0 (bZ 2 R hR 66 w0.heap.size (.slice (some ⟨g, 0, none⟩) l.length cap) l :: M0)) (hl : l.length ≤ 100000) (hi : i < l.length) :
    Calls Tryz.prog 49 #[.slice (some ⟨g, 0, none⟩) l.length cap, .int .i64 (i : Nat), .int .i64 ((i + 1 : Nat) : Int)] w fun e w' => ∃ v', e = .returned v' ∧ St w0 F0 w' F L0 (bZ 2 R hR 66 w0.heap.size v' (l.take i ++ l.drop (i + 1)) :: M0) := by
 obtain ⟨b6, a1, b7, a2, b9⟩ := info_parts uT
 go_enter Tryz.func49, Tryz.ntmps49
 obtain ⟨c1, el2, S3, hn9, b3, a0, hcl4, htk5, hall6, hlen7, hbg8⟩ := St.rowBlk (r := 0) S rfl
 unfold maxLen at a0
 refine sk fun c3 a3 => ?_
 refine dy ?_
 refine wn a3 ?_
 refine sk fun c4 a4 => ?_
 refine aC ?_
 refine dr (.slice (if l.length = i then ((aA g 0) : Option Addr) else ((aA g 0) : Option Addr).map (fun q => Addr.add q (i * 2))) ((i + 1) - i) (l.length - i)) (IB (l := i) (h := (i + 1)) (m := l.length) (sz := 2) Tryz.underlying24 rfl (cX _) rfl rfl rfl (by omega) (by omega) (by omega) rfl) ?_
 simp only [pq]
 refine wn a4 ?_
 refine aE fun c5 a5 => ?_
 refine sk fun c6 a6 => ?_
 iterate 2 refine dx ?_
 refine gB ?_
 simp only [pq]
 refine wn a6 ?_
 refine aF ?_
 refine aH ?_
 refine a5 _ _ ?_
 refine sk fun c7 a7 => ?_
 refine aC ?_
 refine wn a7 ?_
 refine aE fun c8 a8 => ?_
 refine aT F 6 [] (by kernel_rfl) (by kernel_rfl) ?_
 simp only [dD]
 iterate 2 refine gm ?_
 refine gv (.slice (aA g 0) i cap) (fun _ _ => bJ (l := 0) (h := i) (sz := 2) Tryz.underlying24 rfl (cX _) (.inl ⟨rfl, rfl⟩) (.inr ⟨_, rfl, rfl⟩) (by omega) (by omega) (gL)) ?_
 simp only [pq]
 iterate 2 refine gm ?_
 refine gv (.slice (if cap = i + 1 then some ⟨g, 0, none⟩ else some ⟨g, (i + 1) * 2, none⟩) (l.length - (i + 1)) (cap - (i + 1))) (fun _ _ => bJ (l := (i + 1)) (h := l.length) (sz := 2) Tryz.underlying24 rfl (cX _) (.inr ⟨_, rfl, rfl⟩) (.inl ⟨rfl, rfl⟩) (by omega) (by omega) (by rw [show (some (⟨g, 0, none⟩ : Addr)).map (·.add ((i + 1) * 2)) = some ⟨g, (i + 1) * 2, none⟩ from by rw [Option.map_some, Addr.add_mid, Nat.zero_add]])) ?_
 simp only [pq]
 refine bY ?_
 intro c0 a9 b0
 clear b0
 have b4 := St.tells S3 a9
 simp only [dE]
 have hml : ((c1.drop ((i + 1) * 2)).take ((l.length - (i + 1)) * 2)).length = (l.length - (i + 1)) * 2 := by rw [List.length_take, List.length_drop, hcl4]; omega
 have hone := uQ one hall6 htk5 (i + 1)
 have hsrc := b4.src (i := 0) rfl ((i + 1) * 2) ((l.length - (i + 1)) * 2)
 obtain ⟨ad, had, hsrc2⟩ : ∃ ad : Addr, (if cap = i + 1 then some (⟨g, 0, none⟩ : Addr) else some ⟨g, (i + 1) * 2, none⟩) = some ad ∧ ∀ q u, ((c1.drop ((i + 1) * 2)).take ((l.length - (i + 1)) * 2))[q]? = some u → c0.cell? (ad.add q) = some u := by
  by_cases hcc : cap = i + 1
  rw [if_pos hcc]
  refine ⟨_, rfl, fun q u hu => ?_⟩
  have hq := (List.getElem?_eq_some_iff.1 hu).1
  rw [hml] at hq
  omega
  rw [if_neg hcc]
  exact ⟨_, rfl, hsrc⟩
 refine ZE (k := 2) (i := 0) (n := i) (m := l.length - (i + 1)) (ad := ad) (cp := cap - (i + 1)) (l.length - 1) ((c1.drop ((i + 1) * 2)).take ((l.length - (i + 1)) * 2)) b4 rfl b6 Tryz.underlying24 a1 a2 rfl (show _ = _ from by rw [← had]; rfl) rfl hml hsrc2 hone (by omega) (by omega) (by rw [hml, hcl4]; omega) (fun c9 c2 => ?_)
 simp only [pq]
 refine dy ?_
 refine wlK a8 ?_
 refine sk fun d0 b1 => ?_
 refine aC ?_
 refine dr (.slice (some ⟨g, (l.length - 1) * 2, none⟩) 1 (cap - (l.length - 1))) (bJ (l := (l.length - 1)) (h := l.length) (sz := 2) Tryz.underlying24 rfl (cX _) (.inr ⟨_, rfl, rfl⟩) (.inr ⟨_, rfl, rfl⟩) (by omega) (by omega) (fG (by omega) (by omega) rfl (by omega))) ?_
 refine TO (i := 0) (n := 1) (.agg #[Zn, Zn]) [Zn, Zn] c2 rfl Tryz.underlying24 (fun w => xF w) (by kernel_rfl) rfl (by decide) rfl (by rw [cI (by rw [hml, hcl4]; omega), hcl4]; show _ + 2 ≤ _; omega) (by intro u hu; simp only [List.mem_cons, List.not_mem_nil, or_false] at hu; rcases hu with rfl | rfl <;> rfl) (fun d1 b5 => ?_)
 refine wn b1 ?_
 refine sk fun d2 b2 => ?_
 refine aC ?_
 refine wn b2 ?_
 refine aP ?_
 try simp only [xt]
 refine bR (bK rfl (gD rfl)) ?_
 have hll : (l.take i ++ l.drop (i + 1)).length = l.length - 1 := by rw [List.length_append, List.length_take, List.length_drop]; omega
 have hrow := St.blkRow (k := 2) (base := w0.heap.size) (R := R) (hR := hR) (l := l.take i ++ l.drop (i + 1)) (cap := cap) b5 (el := el2.take i ++ el2.drop (i + 1)) (by rw [hll]; exact IA (zs := [(.slice none 0 0), (.slice none 0 0)]) hlen7 htk5 hi (by rw [hcl4]; omega) rfl) (zX hall6 i) (CY hlen7 i) (by rw [cI (by rw [cI (by rw [hml, hcl4]; omega), hcl4]; show _ + 2 ≤ _; omega), cI (by rw [hml, hcl4]; omega), hcl4]) (by omega) (by unfold maxLen; omega) (b5.blk _ (List.mem_cons_self ..)).2.2
 rw [hll] at hrow
 exact ⟨_, rfl, hrow⟩
theorem xP {i : Nat} {w0 w : World} {F0 F : Fz} {L0 : List Blk} {M0 : List RowP} {α : Type} {R : Fz → List Value → α → Prop} {hR : ∀ F F' x p, Le F F' → R F x p → R F' x p} {v : Value} {l : List α} (one : ∀ F cs p, R F cs p → ∀ u ∈ cs, u.oneCell' = true)
    (S : St w0 F0 w F L0 (bZ 2 R hR 66 w0.heap.size v l :: M0)) (hl : l.length ≤ 100000) (hi : i < l.length) :
    Calls Tryz.prog 49 #[v, .int .i64 (i : Nat), .int .i64 ((i + 1 : Nat) : Int)] w fun e w' => ∃ v', e = .returned v' ∧ St w0 F0 w' F L0 (bZ 2 R hR 66 w0.heap.size v' (l.take i ++ l.drop (i + 1)) :: M0) := by
 obtain ⟨g, cap, rfl, _⟩ := (S.own (i := 0) rfl).form (by omega)
 exact AO one S hl hi
def wrE (w : Wr) : Int := if iH w.name.length ≠ 0 then iH w.name.length else if w.gone = true then (if cJ w.key.length ≠ 0 then cJ w.key.length else if 0 < w.value.length then 4 else 0) else fU (w.key, w.value)
theorem lZ {n : Nat} : iH n = 0 ↔ 1 ≤ n ∧ n ≤ 8 := by unfold iH; split <;> simp_all
theorem iV {n : Nat} : cJ n = 0 ↔ 1 ≤ n ∧ n ≤ 16 := by unfold cJ; split <;> simp_all
theorem qB {w : Wr} : wrE w = 0 ↔ WrOk w := by
 unfold wrE
 by_cases h1 : iH w.name.length = 0
 rw [if_neg (by simp [h1])]
 have hn := lZ.1 h1
 cases hg : w.gone with
 | true =>
  simp only [if_true]
  by_cases h2 : cJ w.key.length = 0
  rw [if_neg (by simp [h2])]
  have hk := iV.1 h2
  by_cases h3 : 0 < w.value.length
  rw [if_pos h3]
  refine ⟨fun h => by omega, fun h => ?_⟩
  have := h.gone hg
  rw [this] at h3; simp at h3
  rw [if_neg h3]
  have hv : w.value = [] := List.eq_nil_of_length_eq_zero (by omega)
  exact ⟨fun _ => ⟨hn, hk.1, hk.2, by rw [hv]; simp, fun _ => hv⟩, fun _ => rfl⟩
  rw [if_pos h2]
  exact ⟨fun h => absurd h h2, fun h => absurd (iV.2 ⟨h.key1, h.key2⟩) h2⟩
 | false =>
  simp only [Bool.false_eq_true, if_false]
  rw [tR]
  exact ⟨fun h => ⟨hn, h.1, h.2.1, h.2.2, fun h => by rw [hg] at h; cases h⟩, fun h => ⟨h.key1, h.key2, h.value⟩⟩
 rw [if_pos h1]
 exact ⟨fun h => absurd h h1, fun h => absurd (lZ.2 h.name) h1⟩
theorem OF {f g : aO} (hf : ForestOk 60 f) {w : Wr} (hw : WrOk w) (h : eR f w = some g) : ForestOk 60 g := by
 have a0 := yS hf hw h
 refine ⟨a0.len, a0.name, a0.some, fun t ht => ?_, a0.rise⟩
 have a1 := a0.tree t ht
 refine ⟨?_, a1.ok, a1.rise⟩
 rcases tH h with ⟨_, rfl⟩ | ⟨h1, rfl, _⟩
 have : t ∈ f := by rw [qM _ hf.rise] at ht; exact tF ht
 exact (hf.tree t this).len
 rw [qL _ _ hf.rise] at ht
 rcases tE ht with rfl | ht
 show (iO w (bG f w.name)).length ≤ 60
 unfold eR at h
 dsimp only at h
 by_cases h2 : w.gone = false ∧ 60 < (iO w (bG f w.name)).length
 rw [if_pos h2] at h; cases h
 have hl := (kF hf w.name)
 cases hg : w.gone with
 | false => exact Nat.le_of_not_lt fun q => h2 ⟨hg, q⟩
 | true =>
  unfold iO
  rw [hg, if_pos rfl]
  exact (TreeOk.del hl).len
 exact (hf.tree t ht).len
def dP : aO → List Wr → Int × aO
  | f, [] => (0, f)
  | f, w :: ws => if wrE w ≠ 0 then (wrE w, []) else match eR f w with
    | none => (11, [])
    | some g => dP g ws
theorem qZ : ∀ {ws : List Wr} {f : aO}, (∀ w ∈ ws, WrOk w) → dP f ws = match fW f ws with | some g => (0, g) | none => (11, [])
  | [], f, _ => rfl
  | w :: ws, f, h => by
    have h0 := qB.2 (h w (by simp))
    unfold dP fW
    rw [if_neg (by simp [h0])]
    cases eR f w with
    | none => rfl
    | some g => exact qZ fun x hx => h x (by simp [hx])
def jR (l : aO) : Nat → Nat → Int
  | 0, _ => 0
  | n + 1, k => match l[k]? with
    | none => 0
    | some t => if iH t.1.length ≠ 0 then iH t.1.length else if t.2.length = 0 then 4 else if jG t.2 ≠ 0 then jG t.2 else if 0 < k ∧ 0 ≤ eY (l.getD (k - 1) ([], [])).1 t.1 then 3 else jR l n (k + 1)
def fM (l : aO) : Int := if 8 < l.length then 1 else jR l l.length 0
theorem kV {l : aO} {k : Nat} {t : By × List Pr} (hp : l[k]? = some t) : jR l (l.length - k) k = if iH t.1.length ≠ 0 then iH t.1.length else if t.2.length = 0 then 4 else if jG t.2 ≠ 0 then jG t.2 else if 0 < k ∧ 0 ≤ eY (l.getD (k - 1) ([], [])).1 t.1 then 3 else jR l (l.length - (k + 1)) (k + 1) := by
 obtain ⟨hk, _⟩ := List.getElem?_eq_some_iff.1 hp
 rw [show l.length - k = (l.length - (k + 1)) + 1 from by omega]
 simp only [jR, hp]
theorem KZ {l : aO} {k : Nat} (hk : l.length ≤ k) : jR l (l.length - k) k = 0 := by rw [show l.length - k = 0 from by omega]; rfl
theorem oQ {l : aO} : fM l = 0 ↔ ForestOk 60 l := by
 unfold fM
 by_cases hl : 8 < l.length
 rw [if_pos hl]
 exact ⟨fun h => by omega, fun h => by have := h.len; omega⟩
 rw [if_neg hl]
 have key : ∀ n k, n + k = l.length → (jR l n k = 0 ↔ ∀ i (hi : i < l.length), k ≤ i → (CI l[i].1 ∧ l[i].2 ≠ [] ∧ TreeOk 60 l[i].2) ∧ (0 < i → Lt (l.getD (i - 1) ([], [])).1 l[i].1)) := by
  intro n
  induction n with
  | zero => intro k hk; simp only [jR]; exact ⟨fun _ i hi h => by omega, fun _ => trivial⟩
  | succ n ih =>
   intro k hk
   have hk' : k < l.length := by omega
   simp only [jR, List.getElem?_eq_getElem hk']
   have ihk := ih (k + 1) (by omega)
   by_cases h1 : iH l[k].1.length = 0
   rw [if_neg (by simp [h1])]
   by_cases h2 : l[k].2.length = 0
   rw [if_pos h2]
   exact ⟨fun h => by omega, fun h => absurd (List.eq_nil_of_length_eq_zero h2) (h k hk' (Nat.le_refl _)).1.2.1⟩
   rw [if_neg h2]
   by_cases h3 : jG l[k].2 = 0
   rw [if_neg (by simp [h3])]
   by_cases hc : 0 < k ∧ 0 ≤ eY (l.getD (k - 1) ([], [])).1 l[k].1
   rw [if_pos hc]
   refine ⟨fun h => by omega, fun h => ?_⟩
   have := (h k hk' (Nat.le_refl _)).2 hc.1
   have := rL.2 this
   omega
   rw [if_neg hc, ihk]
   refine ⟨fun h i hi hki => ?_, fun h i hi hki => h i hi (by omega)⟩
   by_cases e : i = k
   subst e
   refine ⟨⟨lZ.1 h1, fun e => h2 (by rw [e]; rfl), oP.1 h3⟩, fun h0 => rL.1 ?_⟩
   have : ¬ 0 ≤ eY (l.getD (i - 1) ([], [])).1 l[i].1 := fun h => hc ⟨h0, h⟩
   omega
   exact h i hi (by omega)
   rw [if_pos h3]
   exact ⟨fun h => absurd h h3, fun h => absurd (oP.2 (h k hk' (Nat.le_refl _)).1.2.2) h3⟩
   rw [if_pos h1]
   exact ⟨fun h => absurd h h1, fun h => absurd (lZ.2 (h k hk' (Nat.le_refl _)).1.1) h1⟩
 rw [key l.length 0 (by omega)]
 constructor
 intro h
 have hm : ∀ t ∈ l, CI t.1 ∧ t.2 ≠ [] ∧ TreeOk 60 t.2 := fun t ht => by
  obtain ⟨i, hi, rfl⟩ := List.mem_iff_getElem.1 ht
  exact (h i hi (by omega)).1
 refine ⟨by omega, fun t ht => (hm t ht).1, fun t ht => (hm t ht).2.1, fun t ht => (hm t ht).2.2, ?_⟩
 have step : ∀ j i (hi : i < l.length) (hj : j < l.length), i < j → Lt l[i].1 l[j].1 := by
  intro j
  induction j with
  | zero => intro i _ _ h; omega
  | succ j ih =>
   intro i hi hj hij
   have h1 := (h (j + 1) hj (by omega)).2 (by omega)
   simp only [Nat.add_sub_cancel, List.getD, List.getElem?_eq_getElem (show j < l.length by omega), Option.getD_some] at h1
   by_cases e : i = j
   subst e; exact h1
   exact lW _ _ _ (ih i hi (by omega) (by omega)) h1
 exact List.pairwise_iff_getElem.2 fun i j hi hj hij => step j i hi hj hij
 intro h i hi _
 have hmem := List.getElem_mem hi
 refine ⟨⟨h.name _ hmem, h.some _ hmem, h.tree _ hmem⟩, fun h0 => ?_⟩
 simp only [List.getD, List.getElem?_eq_getElem (show i - 1 < l.length by omega), Option.getD_some]
 exact List.pairwise_iff_getElem.1 h.rise (i - 1) i (by omega) hi (by omega)
theorem wA (F : Fz) (w : World) (v u : Value) (l : List Pr) (k : By) (hs : Sat w F) (hv : Prs F v l) (hu : Bs F u k) (ok : TreeOk 60 l) (hk : 1 ≤ k.length ∧ k.length ≤ 16) :
    Calls Tryz.prog 47 #[v, u] w (dB w F (PrsE (gP l k) 0)) := by
 have := zZ F w v u l k hs hv hu ok
 have h := gU hk.1 hk.2
 unfold WG WF at this
 rw [if_pos h, h] at this
 exact this
theorem LA (F : Fz) (w : World) (v u z : Value) (l : List Pr) (x y : By) (hs : Sat w F) (hv : Prs F v l) (hx : Bs F u x) (hy : Bs F z y) (ok : TreeOk 60 l) (h1 : 1 ≤ x.length ∧ x.length ≤ 16) (h2 : 1 ≤ y.length ∧ y.length ≤ 16) :
    Calls Tryz.prog 131 #[v, u, z] w (dB w F (PrsE (gR l x y) 0)) := by
 have := RR F w v u z l x y hs hv hx hy ok
 have he : nC x y = 0 := by unfold nC; rw [gU h1.1 h1.2, gU h2.1 h2.2]; rfl
 unfold zB at this
 rw [he, if_pos rfl] at this
 exact this
theorem RS (F : Fz) (w : World) (v u : Value) (l : List Pr) (k : By) {o : Option By} (hs : Sat w F) (hv : Prs F v l) (hu : Bs F u k) (ok : TreeOk 60 l) (hk : 1 ≤ k.length ∧ k.length ≤ 16) (h : gH l k = o) :
    Calls Tryz.prog 39 #[v, u] w (dB w F (It o 0)) := by
 subst h; exact DM F w v u l k hs hv hu ok hk.1 hk.2
theorem rA (F : Fz) (w : World) (v : Value) (l : List Pr) (hs : Sat w F) (hv : Prs F v l) (ok : TreeOk 60 l) :
    Calls Tryz.prog 43 #[v] w (cU w (.int .i64 0)) := by
 have := iS F w v l hs hv
 rwa [oP.2 ok] at this
end Go.Proofs.YtilgpdpooildcaaGreatDoor
