/- Rules, plain laws and walks: F3 F4 K4 K5 K6 S8 S9 S10 MH BY X1 -/
import Derived.Test.YtilgpdpooildcaaGreatDoorFA2
import Derived.Test.YtilgpdpooildcaaGreatDoorFA3
import Derived.Test.YtilgpdpooildcaaGreatDoorFA4
import Derived.OrdersHeld
import Derived.Test.YtilgpdpooildcaaGreatDoorFA1
namespace Go.Proofs.YtilgpdpooildcaaGreatDoor
set_option maxHeartbeats 8000000
open Go.RowKit
set_option maxRecDepth 100000
set_option linter.unusedVariables false
set_option linter.unusedSimpArgs false
theorem qZ {l : aP} {r : Wr} (h : wrE r ≠ 0) : dH l [r] = (wrE r, []) := by unfold dH; rw [if_pos h]
theorem zR {l : aP} {r : Wr} (h : wrE r = 0) (hw : eH l r = none) : dH l [r] = (11, []) := by unfold dH; rw [if_neg (by simp [h]), hw]
theorem oW {l g : aP} {r : Wr} (h : wrE r = 0) (hw : eH l r = some g) : dH l [r] = (0, g) := by unfold dH; rw [if_neg (by simp [h]), hw]; rfl
theorem yL (F : Fz) (w : World) (v u : Value) (l : List Pr) (k : By) (hs : Sat w F) (hv : Prs F v l) (hu : Bs F u k) (ok : TreeOk 60 l) (hk : cF k.length ≠ 0) :
    Calls Tryz.prog 47 #[v, u] w (dO w F (PrsE [] (cF k.length))) := by
 have := yJ F w v u l k hs hv hu ok
 unfold RO RN at this
 rwa [if_neg hk] at this
theorem yM (F : Fz) (w : World) (v u : Value) (l : List Pr) (p : Pr) (hs : Sat w F) (hv : Prs F v l) (hu : Pr2V F u p) (ok : TreeOk 60 l) (hk : p.1.length ≤ 100000) (hx : p.2.length ≤ 100000) (h : fM p ≠ 0) :
    Calls Tryz.prog 48 #[v, u] w (dO w F (PrsE [] (fM p))) := by
 have := BK F w v u l p hs hv hu ok hk hx
 have he : uB l p = fM p := by unfold uB; rw [if_pos h]
 unfold JA at this
 rwa [he, if_neg h] at this
theorem rA (F : Fz) (w : World) (v u : Value) (l : List Pr) (p : Pr) (hs : Sat w F) (hv : Prs F v l) (hu : Pr2V F u p) (ok : TreeOk 60 l) (hk : p.1.length ≤ 100000) (hx : p.2.length ≤ 100000) (h : fM p = 0) (h2 : 60 < (eO l p.1 p.2).length) :
    Calls Tryz.prog 48 #[v, u] w (dO w F (PrsE [] 11)) := by
 have := BK F w v u l p hs hv hu ok hk hx
 have he : uB l p = 11 := by unfold uB; rw [if_neg (by simp [h]), if_pos h2]
 unfold JA at this
 rwa [he, if_neg (by decide)] at this
theorem sJ (F : Fz) (w : World) (v u : Value) (l : List Pr) (p : Pr) (hs : Sat w F) (hv : Prs F v l) (hu : Pr2V F u p) (ok : TreeOk 60 l) (hk : p.1.length ≤ 100000) (hx : p.2.length ≤ 100000) (h : fM p = 0) (h2 : ¬ 60 < (eO l p.1 p.2).length) :
    Calls Tryz.prog 48 #[v, u] w (dO w F (PrsE (eO l p.1 p.2) 0)) := by
 have := BK F w v u l p hs hv hu ok hk hx
 have he : uB l p = 0 := by unfold uB; rw [if_neg (by simp [h]), if_neg h2]
 unfold JA at this
 rwa [he, if_pos rfl] at this
theorem QA {F : Fz} {w : World} {v u : Value} {l : aP} {k : By} {b : Bool} (hs : Sat w F) (hv : Tns F v l) (hu : Bs F u k) (hr : fO l) (hl : l.length ≤ 1000000) (h : eW l k = b) :
    Calls Tryz.prog 46 #[v, u] w (cY w (.tuple #[.int .i64 (aS l k : Nat), .bool b])) := by
 subst h; exact BM F w v u l k hs hv hu hr hl
theorem gO {l : aP} {r : Wr} {O N : List Pr} (hO : dD l r.name = O) (hN : iC r O = N) : eH l r = if r.gone = false ∧ 60 < N.length then none else if N = [] then some (gG l r.name) else if 8 < (eO l r.name N).length then none else some (eO l r.name N) := by
 subst hO; subst hN; rfl
theorem nJ {r : Wr} {O : List Pr} (h : r.gone = true) : iC r O = gG O r.key := by unfold iC; rw [if_pos h]
theorem lB {r : Wr} {O : List Pr} (h : r.gone = false) : iC r O = eO O r.key r.value := by unfold iC; rw [if_neg (by rw [h]; simp)]
theorem zS {N : List Pr} (h : N.length = 0) : N = [] := List.eq_nil_of_length_eq_zero h
theorem tP {N : List Pr} (h : ¬ N.length = 0) : N ≠ [] := fun e => h (by rw [e]; rfl)
theorem JD {l : aP} (hr : fO l) {k : By} (h : eW l k = true) (N : List Pr) : eO l k N = l.set (aS l k) (k, N) := by unfold eO; rw [if_pos h]
theorem JE {l : aP} {k : By} (h : eW l k = false) (N : List Pr) : eO l k N = l.take (aS l k) ++ (k, N) :: l.drop (aS l k) := by unfold eO; rw [if_neg (by rw [h]; simp)]
theorem JF {l : aP} {k : By} (h : eW l k = true) : gG l k = l.take (aS l k) ++ l.drop (aS l k + 1) := by unfold gG; rw [if_pos h]
theorem JG {l : aP} {k : By} (h : eW l k = false) : gG l k = l := by unfold gG; rw [if_neg (by rw [h]; simp)]
theorem NJ {w0 w : World} {F0 F : Fz} {L0 : List Blk} {M0 : List RowP} {v u : Value} {l : aP} {r : Wr}
    (S : St w0 F0 w F L0 (bV 2 TnC TnC.mono 66 w0.heap.size v l :: M0)) (hu : WrV F u r) (ok : ForestOk 60 l) (hb0 : r.name.length ≤ 100000) (hb1 : r.key.length ≤ 100000) (hb2 : r.value.length ≤ 100000) :
    Calls Tryz.prog 34 #[v, u] w fun e w' => ∃ v', e = .returned (.tuple #[v', .int .i64 (dH l [r]).1]) ∧ ∃ F', Le F F' ∧
      (((dH l [r]).1 = 0 ∧ St w0 F0 w' F' L0 (bV 2 TnC TnC.mono 66 w0.heap.size v' (dH l [r]).2 :: M0)) ∨ ((dH l [r]).1 ≠ 0 ∧ v' = .slice none 0 0 ∧ St w0 F0 w' F' L0 M0)) := by
 obtain ⟨a, c, rfl, hc1, hc2⟩ := (S.own (i := 0) rfl).shape
 obtain ⟨x0, y0, x1, y1, x3, y3, rfl, h0, h1, h3⟩ := hu
 unfold maxLen at hc2
 obtain ⟨cb, r9, s0, s1, s2⟩ := info_parts tL
 go_enter Tryz.func34, Tryz.ntmps34
 refine sk fun K1 hK1 => ?_
 refine aZ S (v := fun n => .pointer (aA n 0)) rfl (bW (v := (.agg #[(.slice x0 r.name.length y0), (.slice x1 r.key.length y1), (.bool r.gone), (.slice x3 r.value.length y3)])) rfl) (fun n2 w3 S4 => ?_)
 iterate 2 refine dy ?_
 refine wn hK1 ?_
 refine aF fun K5 hK5 => ?_
 refine sk fun K6 hK6 => ?_
 refine aC ?_
 refine aL (v := (.int .i64 (gX r.name.length))) S4 rfl (fn1 (GR _ _)) (fN (gS _ _ _ _)) (fun w7 S8 => ?_)
 refine dy ?_
 refine wn hK6 ?_
 refine sk fun K9 hK9 => ?_
 refine dx ?_
 simp only [pq]
 by_cases d6 : (gX r.name.length) = (0 : Int)
 refine lQ ?_
 refine wn hK9 ?_
 refine aG ?_
 refine aI ?_
 refine hK5 _ _ ?_
 refine aF fun cc d7 => ?_
 have hl8 := ok.len
 have hpl : aS l r.name ≤ l.length := jU _ _ _
 cases hh : eW l r.name with
 | false =>
  have hO := EP hh
  refine aB ?_
  refine aC ?_
  obtain ⟨cd, j9, k0, d8⟩ := nU S8 (i := 0) rfl
  refine aL (v := (.tuple #[(nI (aS l r.name)), bF])) S8 rfl (fn2 (MX _ _)) (QA j9 d8 (h0.mono k0) ok.rise (by omega) hh) (fun ce b5 => ?_)
  refine aC ?_
  refine wlK d7 ?_
  refine sk fun cf k1 => ?_
  refine aC ?_
  refine wn k1 ?_
  refine aF fun cg k2 => ?_
  refine sk fun ch k3 => ?_
  refine dx ?_
  refine wn k3 ?_
  refine aG ?_
  refine aI ?_
  refine k2 _ _ ?_
  refine sk fun ci k4 => ?_
  refine dy ?_
  refine wn k4 ?_
  refine aF fun cj a5 => ?_
  refine sk fun ck k5 => ?_
  refine aC ?_
  refine wn k5 ?_
  refine wp_cond_split rfl (fun hgone => ?_) (fun hgone => ?_)
  refine aF fun cl d9 => ?_
  by_cases hk : cF r.key.length = 0
  refine aB ?_
  refine aC ?_
  refine aY b5 rfl (fn2 (BG _ _)) (uT _ _ _ _ ([] : List Pr) r.key (b5).sat (Sl.nil _ _ _) h1 (TreeOk.nil 60) (iL.1 hk)) ?_
  intro cm cn co e0 a7 s3
  obtain ⟨_, rfl, j7⟩ := s3
  obtain ⟨j8, e1, rfl, q6, s4⟩ := Sl.shape j7
  unfold maxLen at s4
  have q6 : (gG ([] : List Pr) r.key).length ≤ e1 := q6
  have j7 : Prs _ (.slice j8 (gG ([] : List Pr) r.key).length e1) (gG ([] : List Pr) r.key) := j7
  refine aC ?_
  refine wlK d9 ?_
  refine sk fun cp e2 => ?_
  refine dx ?_
  refine dr bT (cB (b := true) rfl rfl (by decide)) ?_
  refine aC ?_
  by_cases k6 : 0 < r.value.length
  refine pR ?_
  refine dp ?_
  refine wn e2 ?_
  refine aK ?_
  refine aB ?_
  refine dy ?_
  simp only [pq]
  refine wlK a5 ?_
  refine aF fun cq s5 => ?_
  refine aM ?_
  refine sk fun cr k7 => ?_
  refine dx ?_
  refine dr bT (cC (b := true) rfl rfl (by decide)) ?_
  refine dy ?_
  simp only [pq]
  refine wn k7 ?_
  refine aK ?_
  refine sk fun ct k8 => ?_
  refine aC ?_
  refine wn k8 ?_
  refine aO ?_
  try simp only [xt]
  refine bR (cI rfl (gD rfl) (gD rfl)) ?_
  skip
  have hwe : wrE r = 4 := by unfold wrE; rw [if_neg (by omega), if_pos hgone, if_neg (by omega), if_pos (by omega)]
  have hne : wrE r ≠ 0 := by rw [hwe]; decide
  have s6 := St.drop e0 (.cons _ (List.Sublist.refl _))
  rw [qZ hne]
  refine ⟨_, by rw [hwe], _, a7, .inr ⟨hne, rfl, St.dropRow s6 (.cons _ (.refl _))⟩⟩
  refine lF ?_
  refine dp ?_
  refine wn e2 ?_
  refine aG ?_
  refine aI ?_
  refine a5 _ _ ?_
  refine aF fun cu k9 => ?_
  refine aM ?_
  refine sk fun cv l0 => ?_
  refine dx ?_
  refine dr bF (cC (b := false) rfl rfl (by decide)) ?_
  refine dy ?_
  simp only [pq]
  refine wn l0 ?_
  refine aG ?_
  refine sk fun cw l1 => ?_
  refine aC ?_
  refine wn l1 ?_
  refine aG ?_
  refine sk fun cx l2 => ?_
  refine aC ?_
  refine wn l2 ?_
  refine aG ?_
  refine sk fun cy e3 => ?_
  refine aC ?_
  by_cases a3 : (gG ([] : List Pr) r.key).length = 0
  refine iR ?_
  refine dy ?_
  refine wn e3 ?_
  refine aK ?_
  refine sk fun cz l3 => ?_
  refine aC ?_
  refine wn l3 ?_
  refine aO ?_
  try simp only [xt]
  refine bR (cI rfl (gD rfl) (gD rfl)) ?_
  skip
  have hw0 : wrE r = 0 := by unfold wrE; rw [if_neg (by omega), if_pos hgone, if_neg (by omega), if_neg (by omega)]
  have hwf := gO hO (nJ hgone)
  rw [if_neg (fun h => by rw [hgone] at h; simp at h)] at hwf
  rw [if_pos (zS a3), JG hh] at hwf
  have s7 := St.drop e0 (.cons _ (List.Sublist.refl _))
  rw [oW hw0 hwf]
  exact ⟨_, rfl, _, a7, .inl ⟨rfl, s7⟩⟩
  refine gL ?_
  refine dy ?_
  refine wn e3 ?_
  refine aG ?_
  refine sk fun db e4 => ?_
  refine aC ?_
  by_cases l4 : l.length = 8
  refine iR ?_
  refine dy ?_
  refine wn e4 ?_
  refine aK ?_
  refine sk fun dc l5 => ?_
  refine aC ?_
  refine wn l5 ?_
  refine aO ?_
  try simp only [xt]
  refine bR (cI rfl (gD rfl) (gD rfl)) ?_
  skip
  have hw0 : wrE r = 0 := by unfold wrE; rw [if_neg (by omega), if_pos hgone, if_neg (by omega), if_neg (by omega)]
  have hwf := gO hO (nJ hgone)
  rw [if_neg (fun h => by rw [hgone] at h; simp at h)] at hwf
  rw [if_neg (tP a3), if_pos (by rw [jB, if_neg (by rw [hh]; simp)]; omega)] at hwf
  have s8 := St.drop e0 (.cons _ (List.Sublist.refl _))
  rw [zR hw0 hwf]
  refine ⟨_, rfl, _, a7, .inr ⟨(by decide : (11 : Int) ≠ 0), rfl, St.dropRow s8 (.cons _ (.refl _))⟩⟩
  refine gL ?_
  refine dy ?_
  refine wn e4 ?_
  refine aG ?_
  refine aI ?_
  refine k9 _ _ ?_
  refine sk fun dd l6 => ?_
  refine aC ?_
  refine aY e0 rfl (fn1 (gV _ _)) (dC _ _ _ r.name (e0).sat (h0.mono a7) (by omega)) ?_
  intro dg dh dj s9 e5 q7
  obtain ⟨d0, d1, rfl, _⟩ := q7.shape
  refine dx ?_
  refine dr (.agg #[(.slice d0 r.name.length d1), (.slice j8 (gG ([] : List Pr) r.key).length e1)]) (aJ (eZ rfl rfl) (by kernel_rfl)) ?_
  simp only [pq]
  refine aZ s9 (v := fun n => .slice (aA n 0) 1 1) rfl (bS (ps := #[(0, (.agg #[(.slice d0 r.name.length d1), (.slice j8 (gG ([] : List Pr) r.key).length e1)]))]) (cells := #[(.slice d0 r.name.length d1), (.slice j8 (gG ([] : List Pr) r.key).length e1)]) (E := 66) (cG rfl) (fun w => by kernel_rfl)) (fun t0 dk t1 => ?_)
  refine vX (L := (⟨n2, [(.slice x0 r.name.length y0), (.slice x1 r.key.length y1), (.bool r.gone), (.slice x3 r.value.length y3)], 39⟩ :: L0)) (M := fun v_ => (bV 2 TnC TnC.mono 66 w0.heap.size v_ (l.take (aS l r.name) ++ (r.name, (gG ([] : List Pr) r.key)) :: l.drop (aS l r.name)) :: M0)) rfl (cP (vs := #[(.slice a l.length c), (nI (aS l r.name)), (.slice (aA t0 0) 1 1)]) (IU rfl rfl rfl) rfl (UZ _ _)) (wK (p := (r.name, (gG ([] : List Pr) r.key))) TnC.one t1 rfl ⟨_, _, rfl, q7, (j7.mono e5)⟩ (by omega) hpl) ?_
  intro dm dq t2
  simp only [pq]
  iterate 2 refine dy ?_
  refine wn l6 ?_
  refine aO ?_
  try simp only [xt]
  refine bR (cI rfl (gD rfl) (gD rfl)) ?_
  skip
  have hw0 : wrE r = 0 := by unfold wrE; rw [if_neg (by omega), if_pos hgone, if_neg (by omega), if_neg (by omega)]
  have hwf := gO hO (nJ hgone)
  rw [if_neg (fun h => by rw [hgone] at h; simp at h)] at hwf
  rw [if_neg (tP a3), if_neg (by rw [jB, if_neg (by rw [hh]; simp)]; omega), JE hh] at hwf
  have t3 := St.drop t2 (.cons _ (List.Sublist.refl _))
  rw [oW hw0 hwf]
  exact ⟨_, rfl, _, (a7.trans e5), .inl ⟨rfl, t3⟩⟩
  refine aB ?_
  refine aC ?_
  refine aY b5 rfl (fn2 (BG _ _)) (yL _ _ _ _ ([] : List Pr) r.key (b5).sat (Sl.nil _ _ _) h1 (TreeOk.nil 60) hk) ?_
  intro ds du dv t4 l7 t5
  obtain ⟨_, rfl, t6⟩ := t5
  obtain ⟨dw, dz, rfl, _⟩ := Sl.shape t6
  refine aC ?_
  refine wlK d9 ?_
  refine sk fun ea l8 => ?_
  refine dx ?_
  refine dr bF (cB (m := (cF r.key.length)) (n := (0 : Int)) (b := false) rfl rfl (beq_eq_false_iff_ne.2 (hk))) ?_
  refine aC ?_
  refine wn l8 ?_
  refine aG ?_
  refine aI ?_
  refine a5 _ _ ?_
  refine aF fun eb t7 => ?_
  refine aM ?_
  refine sk fun ec l9 => ?_
  refine dx ?_
  refine dr bT (cC (m := (cF r.key.length)) (n := (0 : Int)) (b := true) rfl rfl (bne_iff_ne.2 (hk))) ?_
  refine dy ?_
  simp only [pq]
  refine wn l9 ?_
  refine aK ?_
  refine sk fun ed m0 => ?_
  refine aC ?_
  refine wn m0 ?_
  refine aO ?_
  try simp only [xt]
  refine bodyPost_ret (v := (.tuple #[(.slice none 0 0), (.int .i64 (cF r.key.length))])) ?_ rfl ?_
  exact cI rfl rfl rfl
  skip
  have hwe : wrE r = cF r.key.length := by unfold wrE; rw [if_neg (by omega), if_pos hgone, if_pos hk]
  have hne : wrE r ≠ 0 := by rw [hwe]; exact hk
  have t8 := St.drop t4 (L' := L0) (.cons _ (List.Sublist.refl _))
  rw [qZ hne]
  refine ⟨_, by rw [hwe], _, l7, .inr ⟨hne, rfl, St.dropRow t8 (.cons _ (.refl _))⟩⟩
  by_cases hp : fM (r.key, r.value) = 0
  by_cases a6 : 60 < (eO ([] : List Pr) r.key r.value).length
  refine aB ?_
  refine aC ?_
  refine dr (.agg #[(.slice x1 r.key.length y1), (.slice x3 r.value.length y3)]) (aJ (eZ rfl rfl) (by kernel_rfl)) ?_
  simp only [pq]
  refine aY b5 rfl (fn2 (sG _ _)) (rA _ _ _ _ ([] : List Pr) (r.key, r.value) (b5).sat (Sl.nil _ _ _) ⟨_, _, _, _, rfl, h1, h3⟩ (TreeOk.nil 60) hb1 hb2 hp a6) ?_
  intro ee eg eh t9 m1 u0
  obtain ⟨_, rfl, u1⟩ := u0
  obtain ⟨ei, ej, rfl, ek, u2⟩ := Sl.shape u1
  unfold maxLen at u2
  refine aC ?_
  refine wlK a5 ?_
  refine aF fun el u3 => ?_
  refine aM ?_
  refine sk fun em m2 => ?_
  refine dx ?_
  refine dr bT (cC (b := true) rfl rfl (by decide)) ?_
  refine dy ?_
  simp only [pq]
  refine wn m2 ?_
  refine aK ?_
  refine sk fun en m3 => ?_
  refine aC ?_
  refine wn m3 ?_
  refine aO ?_
  try simp only [xt]
  refine bR (cI rfl (gD rfl) (gD rfl)) ?_
  skip
  have hw0 : wrE r = 0 := by unfold wrE; rw [if_neg (by omega), if_neg (by rw [hgone]; simp)]; exact hp
  have hwf := gO hO (lB hgone)
  rw [if_pos ⟨hgone, a6⟩] at hwf
  have u4 := St.drop t9 (.cons _ (List.Sublist.refl _))
  rw [zR hw0 hwf]
  refine ⟨_, rfl, _, m1, .inr ⟨(by decide : (11 : Int) ≠ 0), rfl, St.dropRow u4 (.cons _ (.refl _))⟩⟩
  refine aB ?_
  refine aC ?_
  refine dr (.agg #[(.slice x1 r.key.length y1), (.slice x3 r.value.length y3)]) (aJ (eZ rfl rfl) (by kernel_rfl)) ?_
  simp only [pq]
  refine aY b5 rfl (fn2 (sG _ _)) (sJ _ _ _ _ ([] : List Pr) (r.key, r.value) (b5).sat (Sl.nil _ _ _) ⟨_, _, _, _, rfl, h1, h3⟩ (TreeOk.nil 60) hb1 hb2 hp a6) ?_
  intro u5 u6 u7 b6 a4 m4
  obtain ⟨_, rfl, b7⟩ := m4
  obtain ⟨b9, a8, rfl, e6, m5⟩ := Sl.shape b7
  unfold maxLen at m5
  have e6 : (eO ([] : List Pr) r.key r.value).length ≤ a8 := e6
  have b7 : Prs _ (.slice b9 (eO ([] : List Pr) r.key r.value).length a8) (eO ([] : List Pr) r.key r.value) := b7
  refine aC ?_
  refine wlK a5 ?_
  refine aF fun u8 e7 => ?_
  refine aM ?_
  refine sk fun u9 e8 => ?_
  refine dx ?_
  refine dr bF (cC (b := false) rfl rfl (by decide)) ?_
  refine dy ?_
  simp only [pq]
  refine wn e8 ?_
  refine aG ?_
  refine sk fun v0 e9 => ?_
  refine aC ?_
  refine wn e9 ?_
  refine aG ?_
  refine sk fun v1 f0 => ?_
  refine aC ?_
  refine wn f0 ?_
  refine aG ?_
  refine sk fun v2 c2 => ?_
  refine aC ?_
  by_cases a3 : (eO ([] : List Pr) r.key r.value).length = 0
  refine iR ?_
  refine dy ?_
  refine wn c2 ?_
  refine aK ?_
  refine sk fun v3 f1 => ?_
  refine aC ?_
  refine wn f1 ?_
  refine aO ?_
  try simp only [xt]
  refine bR (cI rfl (gD rfl) (gD rfl)) ?_
  skip
  have hw0 : wrE r = 0 := by unfold wrE; rw [if_neg (by omega), if_neg (by rw [hgone]; simp)]; exact hp
  have hwf := gO hO (lB hgone)
  rw [if_neg (fun h => a6 h.2)] at hwf
  rw [if_pos (zS a3), JG hh] at hwf
  have m6 := St.drop b6 (.cons _ (List.Sublist.refl _))
  rw [oW hw0 hwf]
  exact ⟨_, rfl, _, a4, .inl ⟨rfl, m6⟩⟩
  refine gL ?_
  refine dy ?_
  refine wn c2 ?_
  refine aG ?_
  refine sk fun v4 c3 => ?_
  refine aC ?_
  by_cases l4 : l.length = 8
  refine iR ?_
  refine dy ?_
  refine wn c3 ?_
  refine aK ?_
  refine sk fun v5 f2 => ?_
  refine aC ?_
  refine wn f2 ?_
  refine aO ?_
  try simp only [xt]
  refine bR (cI rfl (gD rfl) (gD rfl)) ?_
  skip
  have hw0 : wrE r = 0 := by unfold wrE; rw [if_neg (by omega), if_neg (by rw [hgone]; simp)]; exact hp
  have hwf := gO hO (lB hgone)
  rw [if_neg (fun h => a6 h.2)] at hwf
  rw [if_neg (tP a3), if_pos (by rw [jB, if_neg (by rw [hh]; simp)]; omega)] at hwf
  have m7 := St.drop b6 (.cons _ (List.Sublist.refl _))
  rw [zR hw0 hwf]
  refine ⟨_, rfl, _, a4, .inr ⟨(by decide : (11 : Int) ≠ 0), rfl, St.dropRow m7 (.cons _ (.refl _))⟩⟩
  refine gL ?_
  refine dy ?_
  refine wn c3 ?_
  refine aG ?_
  refine aI ?_
  refine e7 _ _ ?_
  refine sk fun v6 f3 => ?_
  refine aC ?_
  refine aY b6 rfl (fn1 (gV _ _)) (dC _ _ _ r.name (b6).sat (h0.mono a4) (by omega)) ?_
  intro v7 v8 v9 m8 c4 f4
  obtain ⟨a9, b0, rfl, _⟩ := f4.shape
  refine dx ?_
  refine dr (.agg #[(.slice a9 r.name.length b0), (.slice b9 (eO ([] : List Pr) r.key r.value).length a8)]) (aJ (eZ rfl rfl) (by kernel_rfl)) ?_
  simp only [pq]
  refine aZ m8 (v := fun n => .slice (aA n 0) 1 1) rfl (bS (ps := #[(0, (.agg #[(.slice a9 r.name.length b0), (.slice b9 (eO ([] : List Pr) r.key r.value).length a8)]))]) (cells := #[(.slice a9 r.name.length b0), (.slice b9 (eO ([] : List Pr) r.key r.value).length a8)]) (E := 66) (cG rfl) (fun w => by kernel_rfl)) (fun m9 w1 n0 => ?_)
  refine vX (L := (⟨n2, [(.slice x0 r.name.length y0), (.slice x1 r.key.length y1), (.bool r.gone), (.slice x3 r.value.length y3)], 39⟩ :: L0)) (M := fun v_ => (bV 2 TnC TnC.mono 66 w0.heap.size v_ (l.take (aS l r.name) ++ (r.name, (eO ([] : List Pr) r.key r.value)) :: l.drop (aS l r.name)) :: M0)) rfl (cP (vs := #[(.slice a l.length c), (nI (aS l r.name)), (.slice (aA m9 0) 1 1)]) (IU rfl rfl rfl) rfl (UZ _ _)) (wK (p := (r.name, (eO ([] : List Pr) r.key r.value))) TnC.one n0 rfl ⟨_, _, rfl, f4, (b7.mono c4)⟩ (by omega) hpl) ?_
  intro w2 w4 n1
  simp only [pq]
  iterate 2 refine dy ?_
  refine wn f3 ?_
  refine aO ?_
  try simp only [xt]
  refine bR (cI rfl (gD rfl) (gD rfl)) ?_
  skip
  have hw0 : wrE r = 0 := by unfold wrE; rw [if_neg (by omega), if_neg (by rw [hgone]; simp)]; exact hp
  have hwf := gO hO (lB hgone)
  rw [if_neg (fun h => a6 h.2)] at hwf
  rw [if_neg (tP a3), if_neg (by rw [jB, if_neg (by rw [hh]; simp)]; omega), JE hh] at hwf
  have n3 := St.drop n1 (.cons _ (List.Sublist.refl _))
  rw [oW hw0 hwf]
  exact ⟨_, rfl, _, (a4.trans c4), .inl ⟨rfl, n3⟩⟩
  refine aB ?_
  refine aC ?_
  refine dr (.agg #[(.slice x1 r.key.length y1), (.slice x3 r.value.length y3)]) (aJ (eZ rfl rfl) (by kernel_rfl)) ?_
  simp only [pq]
  refine aY b5 rfl (fn2 (sG _ _)) (yM _ _ _ _ ([] : List Pr) (r.key, r.value) (b5).sat (Sl.nil _ _ _) ⟨_, _, _, _, rfl, h1, h3⟩ (TreeOk.nil 60) hb1 hb2 hp) ?_
  intro w5 w6 w8 n4 f5 n5
  obtain ⟨_, rfl, n6⟩ := n5
  obtain ⟨w9, x2, rfl, _⟩ := Sl.shape n6
  refine aC ?_
  refine wlK a5 ?_
  refine aF fun x4 q8 => ?_
  refine aM ?_
  refine sk fun x5 f6 => ?_
  refine dx ?_
  refine dr bT (cC (m := (fM (r.key, r.value))) (n := (0 : Int)) (b := true) rfl rfl (bne_iff_ne.2 (hp))) ?_
  refine dy ?_
  simp only [pq]
  refine wn f6 ?_
  refine aK ?_
  refine sk fun x6 f7 => ?_
  refine aC ?_
  refine wn f7 ?_
  refine aO ?_
  try simp only [xt]
  refine bodyPost_ret (v := (.tuple #[(.slice none 0 0), (.int .i64 (fM (r.key, r.value)))])) ?_ rfl ?_
  exact cI rfl rfl rfl
  skip
  have hwe : wrE r = fM (r.key, r.value) := by unfold wrE; rw [if_neg (by omega), if_neg (by rw [hgone]; simp)]
  have hne : wrE r ≠ 0 := by rw [hwe]; exact hp
  have n7 := St.drop n4 (L' := L0) (.cons _ (List.Sublist.refl _))
  rw [qZ hne]
  refine ⟨_, by rw [hwe], _, f5, .inr ⟨hne, rfl, St.dropRow n7 (.cons _ (.refl _))⟩⟩
 | true =>
  have hpos := JC ok.rise hh
  obtain ⟨t, ht⟩ : ∃ t, l[aS l r.name]? = some t := ⟨l[aS l r.name], List.getElem?_eq_getElem hpos⟩
  have hO := EO ok.rise hh ht
  have htn : t.1 = r.name := by obtain ⟨_, h2⟩ := (iA ok.rise).1 hh; obtain ⟨_, rfl⟩ := List.getElem?_eq_some_iff.1 ht; exact h2
  obtain ⟨b1, rfl⟩ := Own.addr0 (S8.own (i := 0) rfl) (by omega)
  refine aB ?_
  refine aC ?_
  obtain ⟨x7, f8, f9, d2⟩ := nU S8 (i := 0) rfl
  refine aL (v := (.tuple #[(nI (aS l r.name)), bT])) S8 rfl (fn2 (MX _ _)) (QA f8 d2 (h0.mono f9) ok.rise (by omega) hh) (fun x8 a0 => ?_)
  refine aC ?_
  refine wlK d7 ?_
  refine sk fun x9 g0 => ?_
  refine aC ?_
  refine wn g0 ?_
  refine aF fun y2 g1 => ?_
  refine sk fun y4 g2 => ?_
  refine dx ?_
  refine wn g2 ?_
  refine aK ?_
  obtain ⟨y5, a2, q9, r0, r1, r2, y6, n8, y7, b2⟩ := Ex (a0.own (i := 0) rfl) ht
  injection a2 with a2; injection a2 with a2; subst a2
  refine aB ?_
  iterate 2 refine dx ?_
  refine dr (pP b1 (0 + (aS l r.name) * 2)) (bK (i := (aS l r.name)) (sz := 2) Tryz.underlying24 (cO _) rfl rfl rfl (hpos) rfl) ?_
  simp only [pq]
  refine df (oT _ _) ?_
  refine dr _ (aE rfl (aT (tK _) n8)) ?_
  refine dy ?_
  simp only [pq]
  refine wlK g1 ?_
  refine sk fun y8 g3 => ?_
  refine dy ?_
  refine wn g3 ?_
  refine aF fun y9 a1 => ?_
  refine sk fun z0 g4 => ?_
  refine aC ?_
  refine wn g4 ?_
  refine wp_cond_split rfl (fun hgone => ?_) (fun hgone => ?_)
  refine aF fun z1 c5 => ?_
  by_cases hk : cF r.key.length = 0
  refine aB ?_
  refine aC ?_
  refine aY a0 rfl (fn2 (BG _ _)) (uT _ _ _ _ t.2 r.key (a0).sat b2 h1 (show TreeOk 60 t.2 from ok.tree t (List.mem_of_getElem? ht)) (iL.1 hk)) ?_
  intro z2 z3 z4 d3 b3 n9
  obtain ⟨_, rfl, c0⟩ := n9
  obtain ⟨g5, d4, rfl, g6, o0⟩ := Sl.shape c0
  unfold maxLen at o0
  have g6 : (gG t.2 r.key).length ≤ d4 := g6
  have c0 : Prs _ (.slice g5 (gG t.2 r.key).length d4) (gG t.2 r.key) := c0
  refine aC ?_
  refine wlK c5 ?_
  refine sk fun z5 c6 => ?_
  refine dx ?_
  refine dr bT (cB (b := true) rfl rfl (by decide)) ?_
  refine aC ?_
  by_cases k6 : 0 < r.value.length
  refine pR ?_
  refine dp ?_
  refine wn c6 ?_
  refine aK ?_
  refine aB ?_
  refine dy ?_
  simp only [pq]
  refine wlK a1 ?_
  refine aF fun z6 r3 => ?_
  refine aM ?_
  refine sk fun z7 g7 => ?_
  refine dx ?_
  refine dr bT (cC (b := true) rfl rfl (by decide)) ?_
  refine dy ?_
  simp only [pq]
  refine wn g7 ?_
  refine aK ?_
  refine sk fun z8 g8 => ?_
  refine aC ?_
  refine wn g8 ?_
  refine aO ?_
  try simp only [xt]
  refine bR (cI rfl (gD rfl) (gD rfl)) ?_
  skip
  have hwe : wrE r = 4 := by unfold wrE; rw [if_neg (by omega), if_pos hgone, if_neg (by omega), if_pos (by omega)]
  have hne : wrE r ≠ 0 := by rw [hwe]; decide
  have o1 := St.drop d3 (.cons _ (List.Sublist.refl _))
  rw [qZ hne]
  refine ⟨_, by rw [hwe], _, b3, .inr ⟨hne, rfl, St.dropRow o1 (.cons _ (.refl _))⟩⟩
  refine lF ?_
  refine dp ?_
  refine wn c6 ?_
  refine aG ?_
  refine aI ?_
  refine a1 _ _ ?_
  refine aF fun z9 r4 => ?_
  refine aM ?_
  refine sk fun aa g9 => ?_
  refine dx ?_
  refine dr bF (cC (b := false) rfl rfl (by decide)) ?_
  refine dy ?_
  simp only [pq]
  refine wn g9 ?_
  refine aG ?_
  refine sk fun ab c7 => ?_
  refine aC ?_
  by_cases b4 : (gG t.2 r.key).length = 0
  refine iR ?_
  refine aC ?_
  refine wn c7 ?_
  refine aK ?_
  refine sk fun ac h4 => ?_
  refine aC ?_
  refine cD ((aS l r.name) + 1) ?_
  refine vX (L := (⟨n2, [(.slice x0 r.name.length y0), (.slice x1 r.key.length y1), (.bool r.gone), (.slice x3 r.value.length y3)], 39⟩ :: L0)) (M := fun v_ => (bV 2 TnC TnC.mono 66 w0.heap.size v_ (l.take (aS l r.name) ++ l.drop ((aS l r.name) + 1)) :: M0)) rfl (cP (vs := #[(.slice (aA b1 0) l.length c), (nI (aS l r.name)), (nI ((aS l r.name) + 1))]) (IU rfl rfl rfl) rfl (UY _ _)) (wL TnC.one d3 (by omega) hpos) ?_
  intro ad ae o2
  refine aC ?_
  refine wn h4 ?_
  refine aO ?_
  try simp only [xt]
  refine bR (cI rfl (gD rfl) (gD rfl)) ?_
  skip
  have hw0 : wrE r = 0 := by unfold wrE; rw [if_neg (by omega), if_pos hgone, if_neg (by omega), if_neg (by omega)]
  have hwf := gO hO (nJ hgone)
  rw [if_neg (fun h => by rw [hgone] at h; simp at h)] at hwf
  rw [if_pos (zS b4), JF hh] at hwf
  have o3 := St.drop o2 (.cons _ (List.Sublist.refl _))
  rw [oW hw0 hwf]
  exact ⟨_, rfl, _, b3, .inl ⟨rfl, o3⟩⟩
  refine gL ?_
  refine aC ?_
  refine wn c7 ?_
  refine aG ?_
  refine sk fun af h5 => ?_
  refine aC ?_
  refine wn h5 ?_
  refine aK ?_
  refine sk fun ag h6 => ?_
  refine aC ?_
  refine dr (pP b1 (0 + (aS l r.name) * 2)) (bK (i := (aS l r.name)) (sz := 2) Tryz.underlying24 (cO _) rfl rfl rfl (hpos) rfl) ?_
  refine df (oT _ _) ?_
  refine EL (r := 0) (i := (aS l r.name)) (j := 1) (p := (r.name, (gG t.2 r.key))) (u := (.slice g5 (gG t.2 r.key).length d4)) d3 rfl rfl (by omega) (by decide) rfl rfl (by omega) (GB) rfl rfl (fun cs q hq hR => ?_) (Nat.le_refl _) (fun ah o4 => ?_)
  obtain ⟨x, y, rfl, hx, hy⟩ := hR
  obtain rfl : q = t := by rw [hq] at ht; exact Option.some.inj ht
  exact ⟨_, _, rfl, by rw [← htn]; exact hx, c0⟩
  refine wn h6 ?_
  refine sk fun ai h7 => ?_
  refine aC ?_
  refine wn h7 ?_
  refine aO ?_
  try simp only [xt]
  refine bR (cI rfl (gD rfl) (gD rfl)) ?_
  skip
  have hw0 : wrE r = 0 := by unfold wrE; rw [if_neg (by omega), if_pos hgone, if_neg (by omega), if_neg (by omega)]
  have hwf := gO hO (nJ hgone)
  rw [if_neg (fun h => by rw [hgone] at h; simp at h)] at hwf
  rw [if_neg (tP b4), if_neg (by rw [jB, if_pos hh]; omega), JD ok.rise hh] at hwf
  have o5 := St.drop o4 (.cons _ (List.Sublist.refl _))
  rw [oW hw0 hwf]
  exact ⟨_, rfl, _, b3, .inl ⟨rfl, o5⟩⟩
  refine aB ?_
  refine aC ?_
  refine aY a0 rfl (fn2 (BG _ _)) (yL _ _ _ _ t.2 r.key (a0).sat b2 h1 (show TreeOk 60 t.2 from ok.tree t (List.mem_of_getElem? ht)) hk) ?_
  intro aj ak al o6 h8 o7
  obtain ⟨_, rfl, o8⟩ := o7
  obtain ⟨am, an, rfl, _⟩ := Sl.shape o8
  refine aC ?_
  refine wlK c5 ?_
  refine sk fun ao h9 => ?_
  refine dx ?_
  refine dr bF (cB (m := (cF r.key.length)) (n := (0 : Int)) (b := false) rfl rfl (beq_eq_false_iff_ne.2 (hk))) ?_
  refine aC ?_
  refine wn h9 ?_
  refine aG ?_
  refine aI ?_
  refine a1 _ _ ?_
  refine aF fun ap r5 => ?_
  refine aM ?_
  refine sk fun aq i0 => ?_
  refine dx ?_
  refine dr bT (cC (m := (cF r.key.length)) (n := (0 : Int)) (b := true) rfl rfl (bne_iff_ne.2 (hk))) ?_
  refine dy ?_
  simp only [pq]
  refine wn i0 ?_
  refine aK ?_
  refine sk fun ar i1 => ?_
  refine aC ?_
  refine wn i1 ?_
  refine aO ?_
  try simp only [xt]
  refine bodyPost_ret (v := (.tuple #[(.slice none 0 0), (.int .i64 (cF r.key.length))])) ?_ rfl ?_
  exact cI rfl rfl rfl
  skip
  have hwe : wrE r = cF r.key.length := by unfold wrE; rw [if_neg (by omega), if_pos hgone, if_pos hk]
  have hne : wrE r ≠ 0 := by rw [hwe]; exact hk
  have o9 := St.drop o6 (L' := L0) (.cons _ (List.Sublist.refl _))
  rw [qZ hne]
  refine ⟨_, by rw [hwe], _, h8, .inr ⟨hne, rfl, St.dropRow o9 (.cons _ (.refl _))⟩⟩
  by_cases hp : fM (r.key, r.value) = 0
  by_cases a6 : 60 < (eO t.2 r.key r.value).length
  refine aB ?_
  refine aC ?_
  refine dr (.agg #[(.slice x1 r.key.length y1), (.slice x3 r.value.length y3)]) (aJ (eZ rfl rfl) (by kernel_rfl)) ?_
  simp only [pq]
  refine aY a0 rfl (fn2 (sG _ _)) (rA _ _ _ _ t.2 (r.key, r.value) (a0).sat b2 ⟨_, _, _, _, rfl, h1, h3⟩ (show TreeOk 60 t.2 from ok.tree t (List.mem_of_getElem? ht)) hb1 hb2 hp a6) ?_
  intro au av aw p0 i2 p1
  obtain ⟨_, rfl, p2⟩ := p1
  obtain ⟨ax, ay, rfl, az, p3⟩ := Sl.shape p2
  unfold maxLen at p3
  refine aC ?_
  refine wlK a1 ?_
  refine aF fun ba r6 => ?_
  refine aM ?_
  refine sk fun bb i3 => ?_
  refine dx ?_
  refine dr bT (cC (b := true) rfl rfl (by decide)) ?_
  refine dy ?_
  simp only [pq]
  refine wn i3 ?_
  refine aK ?_
  refine sk fun bc i4 => ?_
  refine aC ?_
  refine wn i4 ?_
  refine aO ?_
  try simp only [xt]
  refine bR (cI rfl (gD rfl) (gD rfl)) ?_
  skip
  have hw0 : wrE r = 0 := by unfold wrE; rw [if_neg (by omega), if_neg (by rw [hgone]; simp)]; exact hp
  have hwf := gO hO (lB hgone)
  rw [if_pos ⟨hgone, a6⟩] at hwf
  have p4 := St.drop p0 (.cons _ (List.Sublist.refl _))
  rw [zR hw0 hwf]
  refine ⟨_, rfl, _, i2, .inr ⟨(by decide : (11 : Int) ≠ 0), rfl, St.dropRow p4 (.cons _ (.refl _))⟩⟩
  refine aB ?_
  refine aC ?_
  refine dr (.agg #[(.slice x1 r.key.length y1), (.slice x3 r.value.length y3)]) (aJ (eZ rfl rfl) (by kernel_rfl)) ?_
  simp only [pq]
  refine aY a0 rfl (fn2 (sG _ _)) (sJ _ _ _ _ t.2 (r.key, r.value) (a0).sat b2 ⟨_, _, _, _, rfl, h1, h3⟩ (show TreeOk 60 t.2 from ok.tree t (List.mem_of_getElem? ht)) hb1 hb2 hp a6) ?_
  intro bd be bf i5 c8 p5
  obtain ⟨_, rfl, c1⟩ := p5
  obtain ⟨i6, d5, rfl, i7, p6⟩ := Sl.shape c1
  unfold maxLen at p6
  have i7 : (eO t.2 r.key r.value).length ≤ d5 := i7
  have c1 : Prs _ (.slice i6 (eO t.2 r.key r.value).length d5) (eO t.2 r.key r.value) := c1
  refine aC ?_
  refine wlK a1 ?_
  refine aF fun bg r7 => ?_
  refine aM ?_
  refine sk fun bh i8 => ?_
  refine dx ?_
  refine dr bF (cC (b := false) rfl rfl (by decide)) ?_
  refine dy ?_
  simp only [pq]
  refine wn i8 ?_
  refine aG ?_
  refine sk fun bi c9 => ?_
  refine aC ?_
  by_cases b4 : (eO t.2 r.key r.value).length = 0
  refine iR ?_
  refine aC ?_
  refine wn c9 ?_
  refine aK ?_
  refine sk fun bj i9 => ?_
  refine aC ?_
  refine cD ((aS l r.name) + 1) ?_
  refine vX (L := (⟨n2, [(.slice x0 r.name.length y0), (.slice x1 r.key.length y1), (.bool r.gone), (.slice x3 r.value.length y3)], 39⟩ :: L0)) (M := fun v_ => (bV 2 TnC TnC.mono 66 w0.heap.size v_ (l.take (aS l r.name) ++ l.drop ((aS l r.name) + 1)) :: M0)) rfl (cP (vs := #[(.slice (aA b1 0) l.length c), (nI (aS l r.name)), (nI ((aS l r.name) + 1))]) (IU rfl rfl rfl) rfl (UY _ _)) (wL TnC.one i5 (by omega) hpos) ?_
  intro bk bl p7
  refine aC ?_
  refine wn i9 ?_
  refine aO ?_
  try simp only [xt]
  refine bR (cI rfl (gD rfl) (gD rfl)) ?_
  skip
  have hw0 : wrE r = 0 := by unfold wrE; rw [if_neg (by omega), if_neg (by rw [hgone]; simp)]; exact hp
  have hwf := gO hO (lB hgone)
  rw [if_neg (fun h => a6 h.2)] at hwf
  rw [if_pos (zS b4), JF hh] at hwf
  have p8 := St.drop p7 (.cons _ (List.Sublist.refl _))
  rw [oW hw0 hwf]
  exact ⟨_, rfl, _, c8, .inl ⟨rfl, p8⟩⟩
  refine gL ?_
  refine aC ?_
  refine wn c9 ?_
  refine aG ?_
  refine sk fun bm j0 => ?_
  refine aC ?_
  refine wn j0 ?_
  refine aK ?_
  refine sk fun bn j1 => ?_
  refine aC ?_
  refine dr (pP b1 (0 + (aS l r.name) * 2)) (bK (i := (aS l r.name)) (sz := 2) Tryz.underlying24 (cO _) rfl rfl rfl (hpos) rfl) ?_
  refine df (oT _ _) ?_
  refine EL (r := 0) (i := (aS l r.name)) (j := 1) (p := (r.name, (eO t.2 r.key r.value))) (u := (.slice i6 (eO t.2 r.key r.value).length d5)) i5 rfl rfl (by omega) (by decide) rfl rfl (by omega) (GB) rfl rfl (fun cs q hq hR => ?_) (Nat.le_refl _) (fun bo p9 => ?_)
  obtain ⟨x, y, rfl, hx, hy⟩ := hR
  obtain rfl : q = t := by rw [hq] at ht; exact Option.some.inj ht
  exact ⟨_, _, rfl, by rw [← htn]; exact hx, c1⟩
  refine wn j1 ?_
  refine sk fun bp j2 => ?_
  refine aC ?_
  refine wn j2 ?_
  refine aO ?_
  try simp only [xt]
  refine bR (cI rfl (gD rfl) (gD rfl)) ?_
  skip
  have hw0 : wrE r = 0 := by unfold wrE; rw [if_neg (by omega), if_neg (by rw [hgone]; simp)]; exact hp
  have hwf := gO hO (lB hgone)
  rw [if_neg (fun h => a6 h.2)] at hwf
  rw [if_neg (tP b4), if_neg (by rw [jB, if_pos hh]; omega), JD ok.rise hh] at hwf
  have q0 := St.drop p9 (.cons _ (List.Sublist.refl _))
  rw [oW hw0 hwf]
  exact ⟨_, rfl, _, c8, .inl ⟨rfl, q0⟩⟩
  refine aB ?_
  refine aC ?_
  refine dr (.agg #[(.slice x1 r.key.length y1), (.slice x3 r.value.length y3)]) (aJ (eZ rfl rfl) (by kernel_rfl)) ?_
  simp only [pq]
  refine aY a0 rfl (fn2 (sG _ _)) (yM _ _ _ _ t.2 (r.key, r.value) (a0).sat b2 ⟨_, _, _, _, rfl, h1, h3⟩ (show TreeOk 60 t.2 from ok.tree t (List.mem_of_getElem? ht)) hb1 hb2 hp) ?_
  intro bq br bs q1 j3 q2
  obtain ⟨_, rfl, q3⟩ := q2
  obtain ⟨bt, bu, rfl, _⟩ := Sl.shape q3
  refine aC ?_
  refine wlK a1 ?_
  refine aF fun bw r8 => ?_
  refine aM ?_
  refine sk fun bx j4 => ?_
  refine dx ?_
  refine dr bT (cC (m := (fM (r.key, r.value))) (n := (0 : Int)) (b := true) rfl rfl (bne_iff_ne.2 (hp))) ?_
  refine dy ?_
  simp only [pq]
  refine wn j4 ?_
  refine aK ?_
  refine sk fun bz j5 => ?_
  refine aC ?_
  refine wn j5 ?_
  refine aO ?_
  try simp only [xt]
  refine bodyPost_ret (v := (.tuple #[(.slice none 0 0), (.int .i64 (fM (r.key, r.value)))])) ?_ rfl ?_
  exact cI rfl rfl rfl
  skip
  have hwe : wrE r = fM (r.key, r.value) := by unfold wrE; rw [if_neg (by omega), if_neg (by rw [hgone]; simp)]
  have hne : wrE r ≠ 0 := by rw [hwe]; exact hp
  have q4 := St.drop q1 (L' := L0) (.cons _ (List.Sublist.refl _))
  rw [qZ hne]
  refine ⟨_, by rw [hwe], _, j3, .inr ⟨hne, rfl, St.dropRow q4 (.cons _ (.refl _))⟩⟩
 refine mS ?_
 refine wn hK9 ?_
 refine aK ?_
 refine sk fun ca j6 => ?_
 refine aC ?_
 refine wn j6 ?_
 refine aO ?_
 try simp only [xt]
 refine bR (cI rfl (gD rfl) (gD rfl)) ?_
 skip
 have hwe : wrE r = gX r.name.length := by unfold wrE; rw [if_pos d6]
 have hne : wrE r ≠ 0 := by rw [hwe]; exact d6
 have q5 := St.drop S8 (.cons _ (List.Sublist.refl _))
 rw [qZ hne]
 refine ⟨_, by rw [hwe], _, (Le.refl _), .inr ⟨hne, rfl, St.dropRow q5 (.cons _ (.refl _))⟩⟩
def VK (r : aP) (e : Int) (F : Fz) (u : Value) : Prop := ∃ x, u = .tuple #[x, .int .i64 e] ∧ Tns F x r
theorem kR (f : aP) (x : Wr) (ws : List Wr) : dH f (x :: ws) = if wrE x ≠ 0 then (wrE x, []) else match eH f x with | none => (11, []) | some g => dH g ws := rfl
theorem mH : ∀ {ws : List Wr} {f : aP} {w : Wr}, (dH f ws).1 = 0 → dH f (ws ++ [w]) = dH (dH f ws).2 [w]
  | [], f, w, _ => rfl
  | x :: ws, f, w, h => by
    rw [kR] at h
    rw [List.cons_append, kR f x (ws ++ [w]), kR f x ws]
    by_cases hx : wrE x ≠ 0
    · rw [if_pos hx] at h; exact absurd h hx
    · rw [if_neg hx] at h
      rw [if_neg hx, if_neg hx]
      cases hw : eH f x with
      | none => rw [hw] at h; simp at h
      | some g =>
        rw [hw] at h
        simp only at h ⊢
        exact mH h
theorem yN : ∀ {ws us : List Wr} {f : aP}, (dH f ws).1 ≠ 0 → dH f (ws ++ us) = dH f ws
  | [], us, f, h => by simp [dH] at h
  | x :: ws, us, f, h => by
    rw [kR] at h
    rw [List.cons_append, kR f x (ws ++ us), kR f x ws]
    by_cases hx : wrE x ≠ 0
    · rw [if_pos hx, if_pos hx]
    · rw [if_neg hx] at h
      rw [if_neg hx, if_neg hx]
      cases hw : eH f x with
      | none => rfl
      | some g =>
        rw [hw] at h
        simp only at h ⊢
        exact yN h
theorem sK : ∀ {ws : List Wr} {f : aP}, ForestOk 60 f → (dH f ws).1 = 0 → ForestOk 60 (dH f ws).2
  | [], f, hf, _ => hf
  | x :: ws, f, hf, h => by
    unfold dH at h ⊢
    by_cases hx : wrE x ≠ 0
    · rw [if_pos hx] at h; exact absurd h hx
    · rw [if_neg hx] at h ⊢
      cases hw : eH f x with
      | none => rw [hw] at h; simp at h
      | some g =>
        rw [hw] at h
        simp only at h ⊢
        exact sK (JB hf (nZ.1 (Classical.not_not.1 hx)) hw) h
def fZ (f : aP) (ws : List Wr) : Int × aP := if 10 < ws.length then (1, []) else dH f ws
theorem QB : ∀ {ws : List Wr} {f : aP}, (dH f ws).1 ≠ 0 → (dH f ws).2 = []
  | [], f, h => by simp [dH] at h
  | x :: ws, f, h => by
    unfold dH at h ⊢
    by_cases hx : wrE x ≠ 0
    · rw [if_pos hx]
    · rw [if_neg hx] at h ⊢
      cases hw : eH f x with
      | none => rfl
      | some g => rw [hw] at h; exact QB h
theorem uU (F : Fz) (w : World) (v u : Value) (l : aP) (ws : List Wr) (hs : Sat w F) (hv : Tns F v l) (hw : Wrs F u ws) (ok1 : ForestOk 60 l) (hb : ∀ r ∈ ws, r.name.length ≤ 100000 ∧ r.key.length ≤ 100000 ∧ r.value.length ≤ 100000) :
    Calls Tryz.prog 22 #[v, u] w (dO w F (VK (fZ l ws).2 (fZ l ws).1)) := by
 have ok := qY.2 ok1
 have hl8 := ok1.len
 obtain ⟨a, c, rfl, hc1, hc2⟩ := Sl.shape hv
 obtain ⟨a2, c2, rfl, hc3, hc4⟩ := Sl.shape hw
 unfold maxLen at hc2 hc4
 obtain ⟨g0, d1, d2, d3, d4⟩ := info_parts tL
 have S := St.start hs
 go_enter Tryz.func22, Tryz.ntmps22
 refine sk fun K1 hK1 => ?_
 iterate 2 refine dy ?_
 refine wn hK1 ?_
 refine aF fun K2 hK2 => ?_
 refine sk fun K3 hK3 => ?_
 refine dx ?_
 simp only [pq]
 refine aL (v := (.int .i64 (fF l))) S rfl (fn1 (MW _ _)) (lT _ _ _ l (S).sat hv) (fun w4 S5 => ?_)
 refine dy ?_
 refine wn hK3 ?_
 refine sk fun K6 hK6 => ?_
 refine dx ?_
 refine dr bF (cC (m := (fF l)) (n := (0 : Int)) (b := false) rfl rfl (bne_eq_false_iff_eq.2 (ok))) ?_
 simp only [pq]
 refine wn hK6 ?_
 refine aG ?_
 refine aI ?_
 refine hK2 _ _ ?_
 refine aF fun K7 hK7 => ?_
 refine sk fun K8 hK8 => ?_
 refine aC ?_
 by_cases d5 : 10 < ws.length
 refine pR ?_
 refine wn hK8 ?_
 refine aK ?_
 refine sk fun K9 hK9 => ?_
 refine aC ?_
 refine wn hK9 ?_
 refine aO ?_
 try simp only [xt]
 refine bR (cI rfl (gD rfl) (gD rfl)) ?_
 have hall : fZ l ws = (1, []) := by unfold fZ; rw [if_pos (by omega)]
 rw [hall]
 exact ⟨_, _, rfl, S5.gr, _, rfl, Sl.nil _ _ _⟩
 refine lF ?_
 refine wn hK8 ?_
 refine aG ?_
 refine aI ?_
 refine hK7 _ _ ?_
 refine sk fun g1 a9 => ?_
 refine dx ?_
 refine nT TnC.mono S5 rfl (fn1 (Da _ _)) (RP _ _ _ l (S5).sat hv (by omega) (fun t ht => ok1.small ht)) ?_
 intro c8 g2 c9 d6 b0
 refine dy ?_
 simp only [pq]
 refine wn a9 ?_
 refine aF fun g3 b1 => ?_
 refine sk fun g4 b2 => ?_
 refine aC ?_
 refine wn b2 ?_
 refine aM ?_
 refine aW (fun mm aa d7 => ∃ (k : Nat) (v : Value) (b3 : Fz) (a3 : Nat → Value), mm = ws.length - k ∧ a3 = dY aa ∧ aa = ⟨([(.slice a l.length c), (.slice a2 ws.length c2), undef, undef, (a3 4), (a3 5), (.int .i64 (fF l)), v, undef] ++ (usF a3 9 3 ([(.slice a l.length c), (.int .i64 (fF l)), (.int .i64 (fF l)), bF, undef, (.slice a2 ws.length c2), (nI ws.length), bF, (.slice a l.length c), c8, (.slice a2 ws.length c2), (nI ws.length), (nI k)] ++ (usF a3 25 14 [undef])))).toArray, []⟩ ∧ St w F d7 b3 [] [bV 2 TnC TnC.mono 66 w.heap.size v ((dH l (ws.take k)).2)] ∧ Le c9 b3 ∧ (k ≤ ws.length) ∧ ((dH l (ws.take k)).1 = 0)) _ ⟨0, c8, c9, _, rfl, rfl, rfl, d6, Le.refl _, (by omega), rfl⟩ ?_
 rintro g5 g6 g7 ⟨k, v, b3, a3, rfl, -, hfr, a4, a5, hk, hz⟩ g8 b4
 simp only [uzF, Nat.reduceAdd] at hfr; subst hfr
 refine sk fun g9 a6 => ?_
 by_cases b5 : k < ws.length
 refine fA ?_
 refine wn a6 ?_
 refine aF fun h0 b6 => ?_
 refine aK ?_
 refine aI ?_
 refine b6 _ _ ?_
 refine aF fun h1 b7 => ?_
 refine aM ?_
 refine aF fun h2 b9 => ?_
 obtain ⟨p, hp⟩ : ∃ p, ws[k]? = some p := ⟨ws[k], List.getElem?_eq_getElem b5⟩
 obtain ⟨hb0, hb1, hb2⟩ := hb p (List.mem_of_getElem? hp)
 have okk := sK ok1 hz
 obtain ⟨d8, d9, c0, e0, e1, e2, e3, e4, e5, e6, e7, e8, e9, f0, f1, f2⟩ := Wrs.get (hw.mono (b0.trans a5)) hp
 refine aB ?_
 refine dr (pP d8 (d9 + k * 4)) (bK (i := k) (sz := 4) Tryz.underlying40 (eT _) rfl c0 rfl (by omega) rfl) ?_
 refine dr _ (aE rfl (cU Tryz.underlying39 rfl (bI) (eL (St.fz a4 e6) (St.fz a4 e7) (St.fz a4 e8) (St.fz a4 e9)))) ?_
 simp only [pq]
 refine sA a4 (kC _) fun h3 h4 f3 => ?_
 refine sW 0 f3 (bI) fun h5 d0 => ?_
 refine wlK b9 ?_
 refine sk fun h6 a7 => ?_
 refine dx ?_
 refine dR d0 0 Tryz.underlying39 (bI) ?_
 simp only [pq]
 have hwr := NJ (St.drop d0 (L' := []) (.cons _ (List.Sublist.refl _))) (r := p) ⟨_, _, _, _, _, _, rfl, f0, f1, f2⟩ okk hb0 hb1 hb2
 refine doC rfl (fn2 (Db _ _)) hwr ?_
 rintro e h7 ⟨f4, rfl, f5, c1, ⟨a0, a8⟩ | ⟨a0, rfl, a8⟩⟩
 refine ⟨_, rfl, ?_⟩
 rw [a0]
 have hz2 := a0
 rw [← mH hz, ← fL hp] at a8
 refine aC ?_
 refine wn a7 ?_
 refine aF fun h8 c3 => ?_
 refine sk fun h9 c4 => ?_
 refine dx ?_
 refine dr bF (cC (b := false) rfl rfl (by decide)) ?_
 simp only [pq]
 refine wn c4 ?_
 refine aG ?_
 refine aI ?_
 refine c3 _ _ ?_
 refine aB ?_
 refine aC ?_
 refine wlK b7 ?_
 refine aB ?_
 refine cD (k + 1) ?_
 refine dx ?_
 simp only [pq]
 refine aH ?_
 exact b4 _ _ _ (by omega) ⟨(k + 1), f4, f5, _, rfl, rfl, rfl, a8, (a5.trans c1), (by omega), (by rw [fL hp, mH hz]; exact hz2)⟩
 refine ⟨_, rfl, ?_⟩
 have hbad := a0
 refine aC ?_
 refine wn a7 ?_
 refine aF fun i0 f6 => ?_
 refine sk fun i1 c5 => ?_
 refine dx ?_
 refine dr bT (cC (m := (dH ((dH l (ws.take k)).2) [p]).1) (n := (0 : Int)) (b := true) rfl rfl (bne_iff_ne.2 (hbad))) ?_
 simp only [pq]
 refine wn c5 ?_
 refine aK ?_
 refine sk fun i2 c6 => ?_
 refine aC ?_
 refine wn c6 ?_
 refine aO ?_
 try simp only [xt]
 refine bR (cI rfl (gD rfl) (gD rfl)) ?_
 have hall : fZ l ws = dH l (ws.take (k + 1)) := by
  unfold fZ
  rw [if_neg (by omega)]
  have h := yN (us := ws.drop (k + 1)) (ws := ws.take (k + 1)) (f := l) (by rw [fL hp, mH hz]; exact hbad)
  rwa [List.take_append_drop] at h
 rw [hall, fL hp, mH hz, QB hbad]
 exact ⟨_, _, rfl, a8.gr, _, rfl, Sl.nil _ _ _⟩
 refine eM ?_
 refine wn a6 ?_
 refine aF fun i3 f7 => ?_
 refine aG ?_
 refine cS ?_
 refine b1 _ _ ?_
 refine sk fun i4 c7 => ?_
 refine aC ?_
 refine wn c7 ?_
 refine aO ?_
 try simp only [xt]
 refine bR (cI rfl (gD rfl) (gD rfl)) ?_
 have hall : fZ l ws = dH l (ws.take k) := by unfold fZ; rw [if_neg (by omega), List.take_of_length_le (by omega)]
 rw [hall, hz]
 obtain ⟨i5, f8, f9, a1⟩ := St.freeze a4 (i := 0) rfl (Nat.le_refl _)
 have a1 : Tns _ v ((dH l (ws.take k)).2) := a1
 exact ⟨_, _, rfl, f8.gr, _, rfl, a1⟩
theorem sL (F : Fz) (w : World) (v u : Value) (l : aP) (k : By) (hs : Sat w F) (hv : Tns F v l) (hu : Bs F u k) (ok1 : ForestOk 60 l) {e : Int} (he : gX k.length = e) :
    Calls Tryz.prog 38 #[v, u] w (cY w (.int .i64 e)) := by
 subst he; exact DD F w v u l k hs hv hu ok1
theorem VL {P : Program} {w0 w : World} {F0 F : Fz} {L : List Blk} {M : List RowP} {ops : Array Oper} {Q : Exit → Act → World → Prop} {a : Act} {rest : List Oper} {o : Oper} {k : FuncId} {vs : Array Value} {l : List Pr} (S : St w0 F0 w F L M) (hw : Region.wanted o (yielded ops a.tmps) = true)
    (hr : (execOp a.eval o).run P w = .ok (.enter k vs) w) (hc : Calls P k vs w fun e w' => ∃ x, e = .returned x ∧ Below w.heap.size w w' ∧ Prs F x l)
    (h : ∀ x w', St w0 F0 w' F L M → Prs F x l → WL P ops Q rest (a.put o.dst x) w') : WL P ops Q (o :: rest) a w :=
  doC hw hr hc fun e w' ⟨x, he, hb, hp⟩ => ⟨x, he, h x w' (S.tells hb) hp⟩
theorem RQ (F : Fz) (w : World) (v u z : Value) (l : aP) (n k : By) (hs : Sat w F) (hv : Tns F v l) (hn : Bs F u n) (hk : Bs F z k) (ok1 : ForestOk 60 l) (hnn : 1 ≤ n.length ∧ n.length ≤ 8) (hkk : 1 ≤ k.length ∧ k.length ≤ 16) :
    Calls Tryz.prog 29 #[v, u, z] w (dO w F (Dv (jV l n k) 0)) := by
 have hn0 := lA hnn.1 hnn.2
 have hl8 := ok1.len
 obtain ⟨a, c, rfl, hc1, hc2⟩ := Sl.shape hv
 obtain ⟨a2, c2, rfl, _⟩ := hn.shape
 obtain ⟨a3, c3, rfl, _⟩ := hk.shape
 have S := St.start hs
 go_enter Tryz.func29, Tryz.ntmps29
 refine sk fun K1 hK1 => ?_
 refine sA S (oU _) fun n2 w3 S4 => ?_
 refine dy ?_
 refine wn hK1 ?_
 refine aF fun K5 hK5 => ?_
 refine sk fun K6 hK6 => ?_
 refine aC ?_
 refine aL (v := (iI 0)) S4 rfl (fn2 (UW _ _)) (sL _ _ _ _ l n (S4).sat hv hn ok1 hn0) (fun w7 S8 => ?_)
 refine dy ?_
 refine wn hK6 ?_
 refine sk fun K9 hK9 => ?_
 refine dx ?_
 refine dr bF (cC (b := false) rfl rfl (by decide)) ?_
 simp only [pq]
 refine wn hK9 ?_
 refine aG ?_
 refine aI ?_
 refine hK5 _ _ ?_
 refine sk fun b2 a1 => ?_
 iterate 2 refine dx ?_
 refine VL S8 rfl (cP (vs := #[(.slice a l.length c), (.slice a2 n.length c2)]) (iX rfl rfl) rfl (UX _ _)) (yK _ _ _ _ l n (S8).sat hv hn ok1.rise (by omega)) ?_
 intro b3 b4 a5 a0
 obtain ⟨b5, b6, rfl, _⟩ := Sl.shape a0
 refine dx ?_
 simp only [pq]
 refine aY a5 rfl (fn2 (Dc _ _)) (NI _ _ _ _ (dD l n) k (a5).sat a0 hk (TreeOk.mono (show TreeOk 60 (dD l n) from nP ok1 n) (by omega)) (hkk) (rfl)) ?_
 intro b7 b9 c0 a7 a8 a9
 obtain ⟨_, rfl, b0, b1, rfl, a4⟩ := a9
 have a4 : Bs _ (.slice b0 ((jM (dD l n) k).getD []).length b1) ((jM (dD l n) k).getD []) := a4
 iterate 2 refine de ?_
 refine sW 0 a7 (hJ) fun c1 a6 => ?_
 simp only [pq]
 refine dy ?_
 refine wn a1 ?_
 refine aO ?_
 try simp only [xt]
 refine bR (cZ rfl ⟨_, rfl, lR a6 0 Tryz.underlying72 (hJ)⟩ (gD rfl)) ?_
 exact ⟨_, _, rfl, a6.gr, _, rfl, _, _, rfl, a4⟩
theorem JH (F : Fz) (w : World) (v u z y : Value) (l : aP) (n k j : By) (hs : Sat w F) (hv : Tns F v l) (hn : Bs F u n) (hk : Bs F z k) (hj : Bs F y j) (ok1 : ForestOk 60 l) (hnn : 1 ≤ n.length ∧ n.length ≤ 8) (hkk : 1 ≤ k.length ∧ k.length ≤ 16) (hjj : 1 ≤ j.length ∧ j.length ≤ 16) :
    Calls Tryz.prog 107 #[v, u, z, y] w (dO w F (PrsE (gI (dD l n) k j) 0)) := by
 have hn0 := lA hnn.1 hnn.2
 have hl8 := ok1.len
 obtain ⟨a, c, rfl, hc1, hc2⟩ := Sl.shape hv
 obtain ⟨a2, c2, rfl, _⟩ := hn.shape
 obtain ⟨a3, c3, rfl, _⟩ := hk.shape
 obtain ⟨a4, c4, rfl, _⟩ := hj.shape
 have S := St.start hs
 go_enter Tryz.func107, Tryz.ntmps107
 refine sk fun K1 hK1 => ?_
 iterate 2 refine dy ?_
 refine wn hK1 ?_
 refine aF fun K2 hK2 => ?_
 refine sk fun K3 hK3 => ?_
 refine aC ?_
 refine aL (v := (iI 0)) S rfl (fn2 (UW _ _)) (sL _ _ _ _ l n (S).sat hv hn ok1 hn0) (fun w4 S5 => ?_)
 refine dy ?_
 refine wn hK3 ?_
 refine sk fun K6 hK6 => ?_
 refine dx ?_
 refine dr bF (cC (b := false) rfl rfl (by decide)) ?_
 simp only [pq]
 refine wn hK6 ?_
 refine aG ?_
 refine aI ?_
 refine hK2 _ _ ?_
 refine sk fun K7 hK7 => ?_
 iterate 2 refine dx ?_
 refine VL S5 rfl (cP (vs := #[(.slice a l.length c), (.slice a2 n.length c2)]) (iX rfl rfl) rfl (UX _ _)) (yK _ _ _ _ l n (S5).sat hv hn ok1.rise (by omega)) ?_
 intro x8 w9 a5 a0
 obtain ⟨b3, b4, rfl, _⟩ := Sl.shape a0
 refine aC ?_
 refine aY a5 rfl (fn3 (Ai _ _)) (HF _ _ _ _ _ (dD l n) k j (a5).sat a0 hk hj (TreeOk.mono (show TreeOk 60 (dD l n) from nP ok1 n) (by omega)) (hkk) (hjj)) ?_
 intro b5 b6 b7 a8 a9 b0
 obtain ⟨_, rfl, a1⟩ := b0
 obtain ⟨b1, a6, rfl, a7, b2⟩ := Sl.shape a1
 unfold maxLen at b2
 have a7 : (gI (dD l n) k j).length ≤ a6 := a7
 have a1 : Prs _ (.slice b1 (gI (dD l n) k j).length a6) (gI (dD l n) k j) := a1
 refine aC ?_
 refine wn hK7 ?_
 refine aO ?_
 try simp only [xt]
 refine bR (cI rfl (gD rfl) (gD rfl)) ?_
 exact ⟨_, _, rfl, a8.gr, _, rfl, a1⟩
theorem wN {F : Fz} {w : World} {v u : Value} {l g : aP} {ws : List Wr} {e : Int} (hs : Sat w F) (hv : Tns F v l) (hw : Wrs F u ws) (ok1 : ForestOk 60 l) (hb : ∀ r ∈ ws, WrOk r) (h : fZ l ws = (e, g)) :
    Calls Tryz.prog 22 #[v, u] w (dO w F (VK g e)) := by
 have := uU F w v u l ws hs hv hw ok1 fun r hr => by have h := hb r hr; have := h.name.2; have := h.key2; have := h.value; omega
 rwa [h] at this
theorem NK {l : aP} {r : Wr} (h : WrOk r) : fZ l [r] = match eH l r with | some g => (0, g) | none => (11, []) := by
 unfold fZ
 rw [if_neg (by simp), qB (by simpa using h), uR]
 cases eH l r <;> rfl
section
variable {α β : Type} {k k2 E E2 base base2 : Nat} {R : Fz → List Value → α → Prop} {R2 : Fz → List Value → β → Prop} {w0 W w w' : World} {F0 F F' : Fz} {L : List Blk} {M : List RowP} {v v2 : Value} {l : List α} {l2 : List β}
theorem Own.at_heap (h : Own k R E base w F v l) {g : Nat} (hg : v.ownBlock = some g) : ∃ cur : Array Value, w.heap[g]? = some (.cells cur E (0, 0)) := by
 obtain ⟨el, ⟨_, h2⟩, _⟩ := h.ex
 rcases h2 with ⟨rfl, _⟩ | ⟨b, cap, cur, rfl, _, h3, _⟩
 ·cases hg
 ·cases hg; exact ⟨cur, h3⟩
theorem RR (h1 : Own k R E base w F v l) (h2 : Own k2 R2 E2 base2 w F v2 l2) (hE : E ≠ E2) : ∀ g, v.ownBlock = some g → v2.ownBlock ≠ some g := by
 intro g hg hc
 obtain ⟨c1, e1⟩ := h1.at_heap hg
 obtain ⟨c2, e2⟩ := h2.at_heap hc
 rw [e1] at e2
 injection e2 with e2
 injection e2 with _ e2
 exact hE e2
def MadeO {α : Type} (W : World) (F : Fz) (k : Nat) (R : Fz → List Value → α → Prop) (E : Nat) (l : List α) (v : Value) (w : World) : Prop := ∃ F', Gr W F w F' ∧ Own k R E W.heap.size w F' v l
theorem MadeO.stable (hR : ∀ F F' x p, Le F F' → R F x p → R F' x p) (W : World) (F : Fz) (k E : Nat) (l : List α) : Cr (MadeO W F k R E l) :=
  fun v w w' ⟨F', g, h⟩ hb => ⟨F', g.trans (Gr.of_below g.sat hb), h.gr hR g.sat (Gr.of_below g.sat hb)⟩
theorem NL {P : Program} {f : FuncId} {args : Array Value} (hs : Sat W F) (hC : Below W.heap.size W w) (h : Calls P f args w (rX w F k R E l)) : Calls P f args w (nN (jZ (MadeO W F k R E l) w)) :=
  h.mono fun e w' ⟨v, F', he, g, ho⟩ => ⟨v, he, ⟨F', (Gr.of_below hs hC).trans g, ho.rebase fun b hb => Nat.le_trans hC.size (ho.lt b hb).1⟩, g.below⟩
theorem Own.dropF (h : Own k R E base w F v l) {n : Nat} (hx : ∀ cs p, R F cs p → R (Proofs.YtilgpdpooildcaaGreatDoor.dropF F n) cs p) : Own k R E base w (Proofs.YtilgpdpooildcaaGreatDoor.dropF F n) v l := by
 obtain ⟨el, h1, h2, h3⟩ := h.ex
 refine ⟨⟨el, h1, h2.imp hx, h3⟩, fun g hg => ?_⟩
 unfold Proofs.YtilgpdpooildcaaGreatDoor.dropF
 split
 rfl
 exact h.out g hg
theorem St.addBlkRow {hR : ∀ F F' x p, Le F F' → R F x p → R F' x p} {n : Nat} {cs : List Value} {T : TypeId} (S : St w0 F0 W F L M) (g : Gr W F w F') (ho : Own k R E W.heap.size w F' v l) (hn : W.heap.size ≤ n) (hb : w.heap[n]? = some (.cells cs.toArray T (0, 0))) (hE : E ≠ T) (hx : ∀ cs p, R F' cs p → R (Proofs.YtilgpdpooildcaaGreatDoor.dropF F' n) cs p) :
    St w0 F0 w (Proofs.YtilgpdpooildcaaGreatDoor.dropF F' n) (⟨n, cs, T⟩ :: L) (bV k R hR E w0.heap.size v l :: M) := by
 have g' := g.dropF S.sat hn
 have ho' := ho.dropF (n := n) hx
 have S' := S.addRow (hR := hR) g' ho'
 refine ⟨S'.gr, fun x hx => ?_, S'.row, List.pairwise_cons.2 ⟨fun y hy => ?_, S'.bb⟩, fun r hr x hx => ?_, S'.rr⟩
 rcases List.mem_cons.1 hx with rfl | hx
 exact ⟨hb, qA _ _, Nat.le_trans S.gr.below.size hn⟩
 exact S'.blk x hx
 have := S.blk_lt hy
 simp only
 omega
 rcases List.mem_cons.1 hx with rfl | hx
 rcases List.mem_cons.1 hr with rfl | hr
 intro e
 obtain ⟨c, e1⟩ := ho'.at_heap e
 rw [hb] at e1
 injection e1 with e1
 injection e1 with _ e1
 exact hE e1.symm
 intro e
 have := ((S.row r hr).2 _ e).1
 simp at this
 omega
 exact S'.rb r hr x hx
theorem St.addRow2 {hR : ∀ F F' x p, Le F F' → R F x p → R F' x p} {hR2 : ∀ F F' x p, Le F F' → R2 F x p → R2 F' x p} (S : St w0 F0 w F L M) (g : Gr w F w' F') (h1 : Own k R E w.heap.size w' F' v l) (h2 : Own k2 R2 E2 w.heap.size w' F' v2 l2) (hE : E ≠ E2) :
    St w0 F0 w' F' L (bV k R hR E w0.heap.size v l :: bV k2 R2 hR2 E2 w0.heap.size v2 l2 :: M) := by
 have S' := S.addRow (hR := hR2) g h2
 have hlt := h1.lt
 have ho' : Own k R E w0.heap.size w' F' v l := h1.rebase fun b hb => Nat.le_trans S.gr.below.size (hlt b hb).1
 refine ⟨S'.gr, S'.blk, fun r hr => ?_, S'.bb, fun r hr x hx => ?_, List.pairwise_cons.2 ⟨fun s hs b hb hc => ?_, S'.rr⟩⟩
 rcases List.mem_cons.1 hr with rfl | hr
 exact ⟨ho', fun b hb => ⟨(hlt b hb).2, h1.out b hb, Nat.le_trans S.gr.below.size (hlt b hb).1⟩⟩
 exact S'.row r hr
 rcases List.mem_cons.1 hr with rfl | hr
 intro e
 have h1 := (hlt _ e).1
 have h2 := S.blk_lt hx
 omega
 exact S'.rb r hr x hx
 rcases List.mem_cons.1 hs with rfl | hs
 exact RR h1 h2 hE b hb hc
 have h1 := (hlt b hb).1
 have h2 := ((S.row s hs).2 b hc).1
 omega
end
section
variable {w : World} {F : Fz} {n : Nat} {cs : List Value} {T : TypeId}
theorem WrC.dropF (hs : Sat w F) (hb : w.heap[n]? = some (.cells cs.toArray T (0, 0))) (hc : ∀ u ∈ cs, ∀ x, u ≠ bv x) (c : List Value) (p : Wr) (h : WrC F c p) : WrC (Proofs.YtilgpdpooildcaaGreatDoor.dropF F n) c p := by
 obtain ⟨a0, a1, a2, a3, rfl, h0, h1, h2, h3⟩ := h
 exact ⟨a0, a1, a2, a3, rfl, h0.dropF hs hb hc, h1.dropF hs hb hc, h2, h3.dropF hs hb hc⟩
theorem RdC.dropF (hs : Sat w F) (hb : w.heap[n]? = some (.cells cs.toArray T (0, 0))) (hc : ∀ u ∈ cs, ∀ x, u ≠ bv x) (c : List Value) (p : Rd) (h : RdC F c p) : RdC (Proofs.YtilgpdpooildcaaGreatDoor.dropF F n) c p := by
 obtain ⟨a0, a1, a2, a3, rfl, h0, h1, h2, h3⟩ := h
 exact ⟨a0, a1, a2, a3, rfl, h0.dropF hs hb hc, h1.dropF hs hb hc, h2, h3.dropF hs hb hc⟩
end
theorem FactsAt.getR {md : Region.Mode} {ops : Array Oper} {W : World} {F : Fz} {L : List (Nat × Mark)} {Vs : eP} {w : World} {j : Nat} (h : FactsAt md ops (fU W F L) j Vs w) (i : Nat) {v : Value} {R : Value → World → Prop} (ha : mN md ops ops.size j i = true) (hv : Vs i = some v) (hL : fU W F L i = .rel R) : R v w := by
 have := h i v ha hv
 rw [hL] at this
 exact this
theorem wO {P : Program} {f : FuncId} {vs : Array Value} {α : Type} {k E : Nat} {R : Fz → List Value → α → Prop} (hR : ∀ F F' x p, Le F F' → R F x p → R F' x p) {w : World} {F : Fz} {l : List α} (h : Calls P f vs w (rX w F k R E l)) : Calls P f vs w (dO w F fun F' u => Sl k R F' u l) :=
  h.mono fun e w' ⟨v, F', he, g, ho⟩ => by
    obtain ⟨F2, g2, _, h2⟩ := ho.freeze hR g (Nat.le_refl _)
    exact ⟨v, F2, he, g2, h2⟩
def QC (w : World) (F : Fz) (Er Ew : Nat) (t : Tx) (e : Ending) (w' : World) : Prop := ∃ v1 v2 F', e = .returned (.agg #[.int .i64 t.start, v1, v2]) ∧ Gr w F w' F' ∧ Own 4 RdC Er w.heap.size w' F' v1 t.reads ∧ Own 4 WrC Ew w.heap.size w' F' v2 t.writes
theorem EQ {P : Program} {ops : Array Oper} {Q : Exit → Act → World → Prop} {a : Act} {rest : List Oper} {o : Oper} {kf : FuncId} {vs : Array Value} {w0 w : World} {F0 F : Fz} {L : List Blk} {M : List RowP} {Er Ew : Nat} {t : Tx} (S : St w0 F0 w F L M) (hw : Region.wanted o (yielded ops a.tmps) = true)
    (hr : (execOp a.eval o).run P w = .ok (.enter kf vs) w) (hc : Calls P kf vs w (QC w F Er Ew t)) (hE : Er ≠ Ew)
    (h : ∀ a1 c1 a2 c2 w' F', St w0 F0 w' F' L (bV 4 RdC RdC.mono Er w0.heap.size (.slice a1 t.reads.length c1) t.reads :: bV 4 WrC WrC.mono Ew w0.heap.size (.slice a2 t.writes.length c2) t.writes :: M) → Le F F' → c1 ≤ maxLen → c2 ≤ maxLen → WL P ops Q rest (a.put o.dst (.agg #[.int .i64 t.start, .slice a1 t.reads.length c1, .slice a2 t.writes.length c2])) w') : WL P ops Q (o :: rest) a w :=
  doC hw hr hc fun e w' ⟨v1, v2, F', he, g, h1, h2⟩ => by
    obtain ⟨a1, c1, rfl, _, q1⟩ := h1.shape
    obtain ⟨a2, c2, rfl, _, q2⟩ := h2.shape
    exact ⟨_, he, h a1 c1 a2 c2 w' F' (S.addRow2 g h1 h2 hE) (g.le S.sat) q1 q2⟩
section
variable {P : Program} {ops : Array Oper} {md : Region.Mode} {C : World → Prop} {Sp : Nat → OpSpec}
def JI (P : Program) (md : Region.Mode) (ops : Array Oper) (C : World → Prop) (Sp : Nat → OpSpec) (Lq : Act → eP → Prop) : List (Nat × Oper) → Act → eP → Prop
  | [], a, Vs => Lq a Vs
  | (k, o) :: l, a, Vs => if Region.wanted o (yielded ops a.tmps) = true then ∃ S, Ob P md ops C Sp k o a Vs S ∧ ∀ v, S v → JI P md ops C Sp Lq l (a.put o.dst v) (nM (Sp k) Vs k v) else JI P md ops C Sp Lq l (a.put o.dst undef) Vs
def BN (md : Region.Mode) (ops : Array Oper) : List Nat → Array Bool → Bool
  | [], listed => (Region.ready md ops listed).isEmpty
  | k :: ks, listed => decide (Region.ready md ops listed = [k]) && BN md ops ks (listed.setIfInBounds k true)
theorem NM {T : List Nat} {listed : Array Bool} (h : BN md ops T listed = true) : ∀ j ∈ Region.ready md ops listed, j ∈ T := by
 cases T with
 | nil => intro j hj; simp only [BN, List.isEmpty_iff] at h; rw [h] at hj; cases hj
 | cons t T =>
  intro j hj
  simp only [BN, Bool.and_eq_true, decide_eq_true_eq] at h
  rw [h.1] at hj
  have : j = t := by simpa using hj
  subst this
  exact List.mem_cons_self ..
theorem pG {Q' : Exit → Act → World → Prop} : ∀ (l : List (Nat × Oper)) (listed : Array Bool) (a : Act) (w : World), (∀ p ∈ l, ops[p.1]? = some p.2) →
    BN md ops (l.map (·.1)) listed = true → wpList P ops Q' (l.map (·.2)) a w → wpAny P md ops Q' l.length listed a w
  | [], _, _, _, _, hB, h => ⟨by simpa [BN] using hB, h⟩
  | (k, o) :: l, listed, a, w, hl, hB, h => by
    have h0 : ops[k]? = some o := hl (k, o) (List.mem_cons_self ..)
    simp only [List.map_cons, BN, Bool.and_eq_true, decide_eq_true_eq] at hB
    refine ⟨fun h1 => (by rw [hB.1] at h1; cases h1), fun i hi => ?_⟩
    rw [hB.1] at hi
    have hik : i = k := by simpa using hi
    subst hik
    have hw : wpOp P ops Q' i (wpList P ops Q' (l.map (·.2))) a w := by unfold wpOp; simp only [h0]; exact h
    exact wpOp_mono (fun a' w' h' => pG l _ a' w' (fun p hp => hl p (List.mem_cons_of_mem _ hp)) hB.2 h') hw
end
def iZ (l : List Oper) : List Nat → List (Nat × Oper)
  | [] => []
  | k :: ks => match l[k]? with
    | some o => (k, o) :: iZ l ks
    | none => iZ l ks
theorem sM {l : List Oper} : ∀ {ks : List Nat} {p : Nat × Oper}, p ∈ iZ l ks → l.toArray[p.1]? = some p.2
  | [], p, h => by cases h
  | k :: ks, p, h => by
    unfold iZ at h
    split at h
    · rename_i o ho
      rcases List.mem_cons.1 h with rfl | h
      · simpa using ho
      · exact sM h
    · exact sM h
structure GP (P : Program) (md : Region.Mode) (ops : Array Oper) (C : World → Prop) (Sp : Nat → OpSpec) (Lq : Act → eP → Prop) (l : List (Nat × Oper)) (a : Act) (Vs : eP) : Prop where
  out : JI P md ops C Sp Lq l a Vs
section
variable {P : Program} {ops : Array Oper} {md : Region.Mode} {C : World → Prop} {Sp : Nat → OpSpec} {Lq : Act → eP → Prop} {o : Oper} {l : List (Nat × Oper)} {k : Nat} {a : Act} {Vs : eP}
theorem BO (h : Lq a Vs) : GP P md ops C Sp Lq [] a Vs := ⟨h⟩
theorem cQ (hw : Region.wanted o (yielded ops a.tmps) = true) (hs : Sp k = .pure) (v : Value) (h : ∀ w, C w → PureAt P o a w v) (hn : GP P md ops C Sp Lq l (a.put o.dst v) Vs) : GP P md ops C Sp Lq ((k, o) :: l) a Vs := by
 refine ⟨?_⟩
 unfold JI
 rw [if_pos hw]
 refine ⟨fun u => u = v, by unfold Ob; rw [hs]; exact ⟨v, rfl, h⟩, fun u hu => ?_⟩
 subst hu
 rw [hs]
 exact hn.out
theorem kJ (hw : Region.wanted o (yielded ops a.tmps) = true) {R : Value → World → Prop} (hs : Sp k = .rel R) (h : ∀ w, C w → FactsAt md ops Sp k Vs w → kU P o a w (jZ R w)) (hn : ∀ v, GP P md ops C Sp Lq l (a.put o.dst v) (upd Vs k v)) : GP P md ops C Sp Lq ((k, o) :: l) a Vs := by
 refine ⟨?_⟩
 unfold JI
 rw [if_pos hw]
 refine ⟨fun _ => True, by unfold Ob; rw [hs]; exact ⟨rfl, h⟩, fun u _ => ?_⟩
 rw [hs]
 exact (hn u).out
end
structure LT (P : Program) (ops : Array Oper) (Q : Exit → Act → World → Prop) (os : Oper) (rest : List Oper) (a : Act) (w : World) : Prop where
  out : ∃ w', os.guard = none ∧ os.dst = none ∧ (execOp a.eval os).run P w = .ok .skip w' ∧ wpList P ops Q rest a w'
section
variable {P : Program} {ops : Array Oper} {md : Region.Mode} {C : World → Prop} {Sp : Nat → OpSpec}
def xS (P : Program) (md : Region.Mode) (ops : Array Oper) (C : World → Prop) (Sp : Nat → OpSpec) (s : Nat) (L E : Array Bool → Act → eP → Prop) : Nat → Array Bool → Act → eP → Prop
  | 0, listed, a, Vs => L listed a Vs
  | f + 1, listed, a, Vs => Region.ready md ops listed ≠ [] ∧ ∀ i ∈ Region.ready md ops listed, (i ≠ s → gOp P md ops C Sp i (xS P md ops C Sp s L E f (listed.setIfInBounds i true)) a Vs) ∧ (i = s → f = 0 ∧ E listed a Vs)
theorem HG (hC : ∃ w, C w) {i s : Nat} {oi : Oper} {T : List Nat} {L E : Array Bool → Act → eP → Prop} (hi : ops[i]? = some oi) (hsel : ∀ (j : Nat) (o : Oper) cs b, ops[j]? = some o → o.op ≠ .select cs b)
    (hdone : ∀ listed a Vs, L listed a Vs → ∀ j ∈ Region.ready md ops listed, j ∈ T) (hT : ∀ t ∈ T, mN md ops ops.size t i = true) (hsT : s ∈ T) (his : i ≠ s) :
    ∀ (f : Nat) (listed : Array Bool) (a : Act) (Vs : eP), HeadInv md ops ops.size listed →
      (∀ j oj, ops[j]? = some oj → j ≠ i → listed.getD j true = false → (∀ e ∈ oj.after, Region.binds md e = true → e.on ≠ i) → oi.apart ops oj = true) →
      i ∈ Region.ready md ops listed →
      gOp P md ops C Sp i (xS P md ops C Sp s L E f (listed.setIfInBounds i true)) a Vs → xS P md ops C Sp s L E (f + 1) listed a Vs := by
 intro f
 induction f with
 | zero =>
  intro listed a Vs inv _ hr H
  have hun := (mem_ready.1 hr).1
  refine ⟨fun h => (by rw [h] at hr; cases hr), fun j hj => ?_⟩
  by_cases hji : j = i
  subst hji; exact ⟨fun _ => H, fun e => absurd e his⟩
  obtain ⟨a', Vs', hL⟩ := IG H
  have h1 := hdone _ _ _ hL j (ready_mono hj hji)
  have h2 := nG inv hj _ _ (hT j h1)
  rw [getD_both hun] at h2
  cases h2
 | succ f ih =>
  intro listed a Vs inv hfree hr H
  have hun := (mem_ready.1 hr).1
  refine ⟨fun h => (by rw [h] at hr; cases hr), fun j hj => ?_⟩
  obtain ⟨hjun, oj, hoj, hall⟩ := mem_ready.1 hj
  have hjn : j < ops.size := (Array.getElem?_eq_some_iff.1 hoj).1
  by_cases hji : j = i
  subst hji; exact ⟨fun _ => H, fun e => absurd e his⟩
  by_cases hjs : j = s
  subst hjs
  have h2 := nG inv hj _ _ (hT j hsT)
  rw [getD_both hun] at h2
  cases h2
  refine ⟨fun _ => ?_, fun e => absurd e hjs⟩
  have hnot : ∀ e ∈ oj.after, Region.binds md e = true → e.on ≠ i := fun e he hb heq => by
   have h1 := hall e he hb
   rw [heq, getD_both hun] at h1
   cases h1
  have a1 : mN md ops ops.size j i = false := by
   cases hx : mN md ops ops.size j i with
   | false => rfl
   | true => have := nG inv hj _ _ hx; rw [getD_both hun] at this; cases this
  have a2 : mN md ops ops.size i j = false := by
   cases hx : mN md ops ops.size i j with
   | false => rfl
   | true => have := nG inv hr _ _ hx; rw [getD_both hjun] at this; cases this
  have H1 : gOp P md ops C Sp i (gOp P md ops C Sp j (xS P md ops C Sp s L E f ((listed.setIfInBounds i true).setIfInBounds j true))) a Vs :=
   pI (fun a' Vs' h => (h.2 j (ready_mono hj hji)).1 hjs) H
  have H2 := IH hC hi hoj (Ne.symm hji) (hfree j oj hoj hji hjun hnot) (fun cs b => hsel i oi cs b hi) (fun cs b => hsel j oj cs b hoj) a1 a2 H1
  have hfree' : ∀ k ok, ops[k]? = some ok → k ≠ i → (listed.setIfInBounds j true).getD k true = false →
    (∀ e ∈ ok.after, Region.binds md e = true → e.on ≠ i) → oi.apart ops ok = true := fun k ok hk hki hun' hno => by
   refine hfree k ok hk hki ?_ hno
   by_cases hjk : j = k
   subst hjk; exact hjun
   rw [getD_set_ne true hjk] at hun'; exact hun'
  refine pI (fun a' Vs' h3 => ih (listed.setIfInBounds j true) a' Vs' (inv.set hj hjn) hfree' (ready_mono hr (Ne.symm hji)) ?_) H2
  rw [Array.setIfInBounds_comm _ _ hji]
  exact h3
def JJ (P : Program) (md : Region.Mode) (ops : Array Oper) (Q : Exit → Act → World → Prop) (C : World → Prop) (Sp : Nat → OpSpec) (p : Nat) (op os : Oper) (tail : List Oper) (a : Act) (Vs : eP) : Prop :=
  op.guard = none ∧ ∃ v, Sp p = .const v ∧ (∀ w, C w → FactsAt md ops Sp p Vs w → ∀ w1, PureAt P op a w1 v) ∧ ∀ w, C w → Facts Sp Vs w → LT P ops Q os tail (a.put op.dst v) w
def QD (md : Region.Mode) (ops : Array Oper) (p s : Nat) (T : List Nat) (listed : Array Bool) : Bool :=
  ((Region.ready md ops listed).all fun j => j == p || j == s) && (Region.ready md ops listed).contains p && Region.free md ops listed p && BN md ops (s :: T) (listed.setIfInBounds p true) && BN md ops (p :: T) (listed.setIfInBounds s true)
def JK (md : Region.Mode) (ops : Array Oper) (p s : Nat) (T : List Nat) : List Nat → Array Bool → Bool
  | [], listed => QD md ops p s T listed
  | k :: ks, listed => (Region.ready md ops listed).contains k && Region.free md ops listed k && JK md ops p s T ks (listed.setIfInBounds k true)
theorem HH {o : Oper} {a : Act} {w : World} {v : Value} (h : PureAt P o a w v) : kU P o a w (xF v w) := by
 unfold kU PureAt at *
 generalize (execOp a.eval o).run P w = r at *
 cases r with
 | ok n w' =>
  cases n <;> simp only [yC] at h <;> simp only [DN]
  ·obtain ⟨rfl, rfl⟩ := h; exact ⟨rfl, Below.refl _ _⟩
  ·obtain ⟨rfl, rfl⟩ := h; exact ⟨rfl, Below.refl _ _⟩
 | halt x w' => simp only [yC] at h
theorem oX {o : Oper} {t : Array Value} (h : o.guard = none) : Region.wanted o (yielded ops t) = true := by unfold Region.wanted; rw [h]
theorem yO (hC : ∃ w, C w) {p s : Nat} {T : List Nat} {op os : Oper} {tail : List Oper} {Q : Exit → Act → World → Prop} (hp : ops[p]? = some op) (hps : p ≠ s) (hsel : Region.noSelect ops = true) :
    ∀ (l : List (Nat × Oper)) (listed : Array Bool) (a : Act) (Vs : eP), (∀ q ∈ l, ops[q.1]? = some q.2) → (∀ t ∈ s :: T, ∀ q ∈ l, mN md ops ops.size t q.1 = true) → (∀ q ∈ l, q.1 ≠ s) → HeadInv md ops ops.size listed →
    JK md ops p s T (l.map (·.1)) listed = true → JI P md ops C Sp (JJ P md ops Q C Sp p op os tail) l a Vs →
    xS P md ops C Sp s (fun listed' a' Vs' => BN md ops (s :: T) listed' = true ∧ ∀ w, C w → Facts Sp Vs' w → LT P ops Q os tail a' w) (fun listed' a' Vs' => QD md ops p s T listed' = true ∧ JJ P md ops Q C Sp p op os tail a' Vs') (l.length + 1) listed a Vs
  | [], listed, a, Vs, _, _, _, _, hB, h => by
    have hB0 := hB
    simp only [List.map_nil, JK, QD, Bool.and_eq_true] at hB
    obtain ⟨⟨⟨⟨h1, h2⟩, h3⟩, h4⟩, h5⟩ := hB
    have hr : p ∈ Region.ready md ops listed := by simpa using h2
    refine ⟨fun e => (by rw [e] at hr; cases hr), fun j hj => ⟨fun hjs => ?_, fun e => ⟨rfl, hB0, h⟩⟩⟩
    have hj2 := List.all_eq_true.1 h1 j hj
    simp only [Bool.or_eq_true, beq_iff_eq] at hj2
    have hjp : j = p := hj2.resolve_right hjs
    subst hjp
    obtain ⟨hg, v, hs, hpu, hn⟩ := h
    unfold gOp
    simp only [hp]
    rw [if_pos (oX hg)]
    refine ⟨fun u => u = v, ?_, fun u hu => ?_⟩
    · unfold Ob; rw [hs]; exact ⟨rfl, fun w hc hF => HH (hpu w hc hF w)⟩
    · subst hu
      rw [hs]
      exact ⟨h4, hn⟩
  | (k, o) :: l, listed, a, Vs, hl, hT, hns, inv, hB, h => by
    have h0 : ops[k]? = some o := hl (k, o) (List.mem_cons_self ..)
    have hkn : k < ops.size := (Array.getElem?_eq_some_iff.1 h0).1
    simp only [List.map_cons, JK, Bool.and_eq_true] at hB
    obtain ⟨⟨hr, hf⟩, hB'⟩ := hB
    have hr' : k ∈ Region.ready md ops listed := by simpa using hr
    have hg : gOp P md ops C Sp k (JI P md ops C Sp (JJ P md ops Q C Sp p op os tail) l) a Vs := by unfold gOp; simp only [h0]; exact h
    exact HG hC h0 (Region.noSelect_spec hsel) (fun listed' a' Vs' hL => NM hL.1) (fun t ht => hT t ht (k, o) (List.mem_cons_self ..)) (List.mem_cons_self ..) (hns (k, o) (List.mem_cons_self ..)) (l.length + 1) listed a Vs inv (Region.free_spec h0 hf) hr'
      (pI (fun a' Vs' h' => yO hC hp hps hsel l _ a' Vs' (fun p hp => hl p (List.mem_cons_of_mem _ hp)) (fun t ht p hp => hT t ht p (List.mem_cons_of_mem _ hp)) (fun q hq => hns q (List.mem_cons_of_mem _ hq)) (inv.set hr' hkn) hB' h') hg)
theorem lU (hst : ∀ i v w w', kT (Sp i) v w → Below w.heap.size w w' → kT (Sp i) v w') (hCE : ∀ w w', C w → Below w.heap.size w w' → C w') {s g : Nat} {L E : Array Bool → Act → eP → Prop} {Q' : Exit → Act → World → Prop}
    (hL : ∀ listed a Vs w, C w → Facts Sp Vs w → L listed a Vs → wpAny P md ops Q' g listed a w)
    (hE : ∀ listed a Vs w, C w → Facts Sp Vs w → s ∈ Region.ready md ops listed → E listed a Vs → wpOp P ops Q' s (wpAny P md ops Q' g (listed.setIfInBounds s true)) a w) :
    ∀ (f : Nat) (listed : Array Bool) (a : Act) (Vs : eP) (w : World), C w → Facts Sp Vs w → xS P md ops C Sp s L E f listed a Vs → wpAny P md ops Q' (f + g) listed a w
  | 0, listed, a, Vs, w, hc, hF, h => by rw [Nat.zero_add]; exact hL _ _ _ _ hc hF h
  | f + 1, listed, a, Vs, w, hc, hF, h => by
    rw [show f + 1 + g = (f + g) + 1 by omega]
    refine ⟨fun h0 => absurd h0 h.1, fun i hi => ?_⟩
    by_cases his : i = s
    · subst his
      obtain ⟨hf0, he⟩ := (h.2 i hi).2 rfl
      subst hf0
      rw [Nat.zero_add]
      exact hE listed a Vs w hc hF hi he
    have hg := (h.2 i hi).1 his
    unfold gOp at hg
    unfold wpOp
    split
    · rename_i e
      simp only [e] at hg
      exact lU hst hCE hL hE f _ a Vs w hc hF hg
    · rename_i o e
      simp only [e] at hg
      split
      · rename_i hw
        rw [if_pos hw] at hg
        obtain ⟨S, hS, hall⟩ := hg
        left
        unfold Ob at hS
        split at hS
        · rename_i es
          obtain ⟨v, rfl, hp⟩ := hS
          have hn := hall v rfl
          simp only [es, nM] at hn
          exact Oper.wp_of_pure (hp w hc) (lU hst hCE hL hE f _ _ Vs w hc hF hn)
        · rename_i v es
          obtain ⟨rfl, hp⟩ := hS
          have hn := hall v rfl
          simp only [es, nM] at hn
          refine Oper.wp_of_does (hp w hc fun i' v' _ hv => hF i' v' hv) fun u w' ⟨hu, hb⟩ => ?_
          subst hu
          exact lU hst hCE hL hE f _ _ Vs w' (hCE w w' hc hb) (fun i' v' hv => hst i' v' w w' (hF i' v' hv) hb) hn
        · rename_i R es
          obtain ⟨rfl, hp⟩ := hS
          refine Oper.wp_of_does (hp w hc fun i' v' _ hv => hF i' v' hv) fun u w' ⟨hu, hb⟩ => ?_
          have hn := hall u trivial
          refine lU hst hCE hL hE f _ _ _ w' (hCE w w' hc hb) (fun i' v' hv => ?_) hn
          simp only [es, nM] at hv
          unfold upd at hv
          split at hv
          · rename_i e'
            subst e'
            cases hv
            simp only [es, kT]
            exact hu
          · exact hst i' v' w w' (hF i' v' hv) hb
      · rename_i hw
        rw [if_neg hw] at hg
        exact lU hst hCE hL hE f _ _ Vs w hc hF hg
theorem HI {Q : Exit → Act → World → Prop} {os : Oper} {tail : List Oper} {a : Act} {w : World} (h : LT P ops Q os tail a w) : wpList P ops Q (os :: tail) a w := by
 obtain ⟨w', hg, hd, hr, hk⟩ := h.out
 unfold wpList
 rw [if_pos (oX hg)]
 left
 refine Oper.wp_of_does (Φ := fun u w1 => u = undef ∧ w1 = w') (by unfold kU; rw [hr]; exact ⟨rfl, rfl⟩) fun u w1 ⟨hu, hw⟩ => ?_
 subst hu; subst hw
 rw [hd]
 exact hk
end
def VM (md : Region.Mode) (ops : Array Oper) (hd : List Nat) (p s : Nat) (tl : List Nat) : Bool :=
  Region.noSelect ops && decide (hd.length + 2 + tl.length = ops.size) && JK md ops p s tl hd (Array.replicate ops.size false) && ((s :: tl).all fun t => hd.all fun i => mN md ops ops.size t i) && (hd.all fun i => i != s) && (p != s)
theorem BP {P : Program} {id : Nat} {Q : Exit → Act → World → Prop} {a : Act} {w : World} {l : List Oper} (hd : List Nat) (p s : Nat) (tl : List Nat) (op os : Oper) (Sp : Nat → OpSpec) (hm : P.follows .mixedOrders = true) (hB : VM .any l.toArray hd p s tl = true)
    (e1 : (iZ l hd).map (·.1) = hd) (e2 : (iZ l tl).map (·.1) = tl) (e3 : l[p]? = some op) (e4 : l[s]? = some os)
    (hst : ∀ i v w w', kT (Sp i) v w → Below w.heap.size w w' → kT (Sp i) v w')
    (h : JI P .any l.toArray (fun w' => Below w.heap.size w w') Sp (JJ P .any l.toArray Q (fun w' => Below w.heap.size w w') Sp p op os ((iZ l tl).map (·.2))) (iZ l hd) a (fun _ => none)) : (Code.region id l.toArray true).wp P Q a w := by
 simp only [VM, Bool.and_eq_true, decide_eq_true_eq] at hB
 obtain ⟨⟨⟨⟨⟨hsel, hn⟩, hlex⟩, hanc⟩, hns⟩, hps⟩ := hB
 have hps : p ≠ s := by simpa using hps
 have hp : l.toArray[p]? = some op := by simpa using e3
 have hs : l.toArray[s]? = some os := by simpa using e4
 have inv0 : HeadInv .any l.toArray l.toArray.size (Array.replicate l.toArray.size false) :=
  ⟨by simp, fun j oj _ hl => (by rw [getD_replicate_false] at hl; cases hl), fun t h1 h2 => by omega⟩
 have mem : ∀ q ∈ iZ l hd, q.1 ∈ hd := fun q hq => by rw [← e1]; exact List.mem_map.2 ⟨q, hq, rfl⟩
 have H := yO (md := .any) (T := tl) (Q := Q) ⟨w, Below.refl _ _⟩ hp hps hsel (iZ l hd) _ a _ (fun p hp => sM hp) (fun t ht p hp => by
  have h1 := List.all_eq_true.1 hanc t ht
  exact List.all_eq_true.1 h1 p.1 (mem p hp)) (fun q hq => by have := List.all_eq_true.1 hns q.1 (mem q hq); simpa using this) inv0 (by rw [e1]; exact hlex) h
 refine wp_region_any hm ?_
 have hlh : (iZ l hd).length = hd.length := by have := congrArg List.length e1; simpa using this
 have hlt : (iZ l tl).length = tl.length := by have := congrArg List.length e2; simpa using this
 have := lU (Q' := Q) (g := (iZ l tl).length + 1) hst (fun w1 w2 h1 h2 => h1.trans (h2.mono h1.size)) (fun listed a' Vs w' hC hF hL => by
   have := pG (md := .any) (Q' := Q) ((s, os) :: iZ l tl) listed a' w' (fun p hp => by rcases List.mem_cons.1 hp with rfl | hp; exact hs; exact sM hp) (by rw [List.map_cons, e2]; exact hL.1) (HI (hL.2 w' hC hF))
   simpa using this) (fun listed a' Vs w' hC hF hsr hE => by
   obtain ⟨hB, hg, v, hsp, hpu, hn'⟩ := hE
   simp only [QD, Bool.and_eq_true] at hB
   obtain ⟨⟨⟨⟨h1, h2⟩, h3⟩, h4⟩, h5⟩ := hB
   have hrp : p ∈ Region.ready .any l.toArray listed := by simpa using h2
   have hunp := (mem_ready.1 hrp).1
   obtain ⟨hsun, os', hos', hall⟩ := mem_ready.1 hsr
   have hoe : os' = os := Option.some.inj (hos'.symm.trans hs)
   subst hoe
   have hap := Region.free_spec hp h3 s os' hos' (Ne.symm hps) hsun (fun e he hb heq => by
    have h1 := hall e he hb
    rw [heq, getD_both hunp] at h1
    cases h1)
   obtain ⟨w1, q1, q2, q3, q4⟩ := (hn' w' hC hF).out
   rw [execOp_put os' (fun cs b => Region.noSelect_spec hsel s os' cs b hos') a' op.dst v (Oper.apart_spec hap).1] at q3
   unfold wpOp
   simp only [hos']
   rw [if_pos (oX q1)]
   left
   refine Oper.wp_of_does (Φ := fun u w2 => u = undef ∧ w2 = w1) (by unfold kU; rw [q3]; exact ⟨rfl, rfl⟩) fun u w2 ⟨hu, hw⟩ => ?_
   subst hu; subst hw
   rw [q2]
   have h5' := h5
   simp only [BN, Bool.and_eq_true, decide_eq_true_eq] at h5'
   refine ⟨fun e => (by rw [h5'.1] at e; cases e), fun i hi => ?_⟩
   rw [h5'.1] at hi
   have hip : i = p := by simpa using hi
   subst hip
   unfold wpOp
   simp only [hp]
   rw [if_pos (oX hg)]
   left
   exact Oper.wp_of_pure (hpu w' hC (fun i' v' _ hv => hF i' v' hv) w2) (pG (md := .any) (Q' := Q) (iZ l tl) _ _ _ (fun p hp => sM hp) (by rw [e2]; exact h5'.2) q4)) _ _ _ _ ({ w with drawn := w.drawn + 1 } : World) (Below.refl w.heap.size w).drew (fun i v h => by cases h) H
 rw [hlh, hlt, show hd.length + 1 + (tl.length + 1) = hd.length + 2 + tl.length by omega, hn] at this
 exact this
section
variable {P : Program} {ops : Array Oper} {md : Region.Mode} {C : World → Prop} {Sp : Nat → OpSpec}
def Ci (P : Program) (md : Region.Mode) (ops : Array Oper) (Q : Exit → Act → World → Prop) (C : World → Prop) (Sp : Nat → OpSpec) (p : Nat) (op os : Oper) (tail : List Oper) (a : Act) (Vs : eP) : Prop := JJ P md ops Q C Sp p op os tail a Vs
theorem JL {p : Nat} {op os : Oper} {tail : List Oper} {Q : Exit → Act → World → Prop} {a : Act} {Vs : eP} (hg : op.guard = none) {v : Value} (hs : Sp p = .const v) (h : ∀ w, C w → FactsAt md ops Sp p Vs w → ∀ w1, PureAt P op a w1 v)
    (hn : ∀ w, C w → Facts Sp Vs w → LT P ops Q os tail (a.put op.dst v) w) : Ci P md ops Q C Sp p op os tail a Vs := ⟨hg, v, hs, h, hn⟩
end
theorem mI {P : Program} {id : Nat} {Q : Exit → Act → World → Prop} {a : Act} {W : World} {l : List Oper} (F : Fz) (hd : List Nat) (p s : Nat) (tl : List Nat) (L : List (Nat × Mark)) (hm : P.follows .mixedOrders = true) (hB : VM .any l.toArray hd p s tl = true) (e1 : (iZ l hd).map (·.1) = hd) (e2 : (iZ l tl).map (·.1) = tl)
    {op os : Oper} (e3 : l[p]? = some op) (e4 : l[s]? = some os)
    (h : GP P .any l.toArray (fun w' => Below W.heap.size W w') (fU W F L) (Ci P .any l.toArray Q (fun w' => Below W.heap.size W w') (fU W F L) p op os ((iZ l tl).map (·.2))) (iZ l hd) a (fun _ => none)) : (Code.region id l.toArray true).wp P Q a W :=
  BP hd p s tl op os (fU W F L) hm hB e1 e2 e3 e4 uC h.out
theorem BQ {P : Program} {w0 w : World} {F0 F : Fz} {L : List Blk} {M : List RowP} {ops : Array Oper} {Q : Exit → Act → World → Prop} {a : Act} {rest : List Oper} {t T T' : TypeId} {x y : Operand} {pos : String} {after : Array Edge} {i n j : Nat} {c : List Value} {v : Value} (S : St w0 F0 w F L M)
    (hx : a.eval x = .pointer (some ⟨n, j, none⟩)) (hy : a.eval y = v) (hL : L[i]? = some ⟨n, c, T'⟩)
    (hi : (P.info? T).map (·.size) = some v.cells.size) (h1 : v.cells.all (·.oneCell') = true) (hl : j + v.cells.size ≤ c.length)
    (h : ∀ w', St w0 F0 w' F (L.set i ⟨n, bQ c j v.cells.toList, T'⟩) M → WL P ops Q rest a w') : LT P ops Q ⟨none, .store T x y, t, pos, after, none⟩ rest a w := by
 have hs := FX (P := P) (T := T) (v := v) hi (S.there hL j v.cells.size hl) h1
 exact ⟨⟨_, rfl, rfl, vU hx (by rw [hy]; exact hs), (h _ (S.store hL j v.cells.toList (by simpa using hl))).out⟩⟩
theorem BR {P : Program} {f : FuncId} {args : Array Value} {W w : World} {F Fa : Fz} {R : Fz → Value → Prop} (ga : Gr W F w Fa) (h : Calls P f args w (dO w Fa R)) : Calls P f args w (nN (jZ (Made W F R) w)) :=
  h.mono fun e w' ⟨v, F', he, g, r⟩ => ⟨v, he, ⟨F', ga.trans g, r⟩, g.below⟩
theorem Sl.dropF {α : Type} {k : Nat} {R : Fz → List Value → α → Prop} {w : World} {F : Fz} {n : Nat} {cs : List Value} {T : TypeId} (hs : Sat w F) (hb : w.heap[n]? = some (.cells cs.toArray T (0, 0))) (hR : ∀ c p, R F c p → R (Proofs.YtilgpdpooildcaaGreatDoor.dropF F n) c p) (hx : ∀ (c : List Value) p, R F c p → ∃ (j : Nat) (u : Value), c[j]? = some u ∧ u ∉ cs) {v : Value} {l : List α} (h : Sl k R F v l) : Sl k R (Proofs.YtilgpdpooildcaaGreatDoor.dropF F n) v l := by
 obtain ⟨xs, ⟨a, c, h1, h2, h3, h4, h5⟩, hr, hk⟩ := h
 refine ⟨xs, ⟨a, c, h1, h2, h3, h4, ?_⟩, hr.imp hR, hk⟩
 rcases h5 with h5 | ⟨b, o, e, h6⟩
 exact .inl h5
 by_cases hbn : b = n
 cases xs with
 | nil => exact .inl rfl
 | cons x xs =>
  exfalso
  cases l with
  | nil => exact hr
  | cons p l =>
   obtain ⟨j, u, hj, hu⟩ := hx _ _ hr.1
   have h0 := h6 j u (by
    rw [List.flatten_cons, List.getElem?_append_left (List.getElem?_eq_some_iff.1 hj).1]
    exact hj)
   subst hbn
   unfold bH at h0
   split at h0
   rename_i c0 t0 fr0 hF
   have := hs _ _ hF
   rw [hb] at this
   cases this
   have hm : u ∈ cs := by
    have : cs[o + j]? = some u := by simpa using h0
    exact List.mem_of_getElem? this
   exact hu hm
   cases h0
 refine .inr ⟨b, o, e, fun j u hu => ?_⟩
 have h0 := h6 j u hu
 unfold bH Proofs.YtilgpdpooildcaaGreatDoor.dropF at *
 rw [if_neg hbn]
 exact h0
section
variable {w : World} {F : Fz} {n : Nat} {cs : List Value} {T : TypeId}
theorem Rds.dropF (hs : Sat w F) (hb : w.heap[n]? = some (.cells cs.toArray T (0, 0))) (hc : ∀ u ∈ cs, ∀ x, u ≠ bv x) (hc2 : ∀ b, Value.bool b ∉ cs) {v : Value} {l : List Rd} (h : Rds F v l) : Rds (Proofs.YtilgpdpooildcaaGreatDoor.dropF F n) v l :=
  Sl.dropF hs hb (RdC.dropF hs hb hc) (fun c p ⟨a0, a1, a2, a3, e, _, _, e2, _⟩ => ⟨2, a2, by rw [e]; rfl, by rw [e2]; exact hc2 _⟩) h
theorem Wrs.dropF (hs : Sat w F) (hb : w.heap[n]? = some (.cells cs.toArray T (0, 0))) (hc : ∀ u ∈ cs, ∀ x, u ≠ bv x) (hc2 : ∀ b, Value.bool b ∉ cs) {v : Value} {l : List Wr} (h : Wrs F v l) : Wrs (Proofs.YtilgpdpooildcaaGreatDoor.dropF F n) v l :=
  Sl.dropF hs hb (WrC.dropF hs hb hc) (fun c p ⟨a0, a1, a2, a3, e, _, _, e2, _⟩ => ⟨2, a2, by rw [e]; rfl, by rw [e2]; exact hc2 _⟩) h
end
structure HL (P : Program) (ops : Array Oper) (Q : Exit → Act → World → Prop) (F : Fz) (fuel : Nat) (listed : Array Bool) (a : Act) (w : World) : Prop where
  out : Go.wpAnyH P .any ops Q (fun w => Sat w F) fuel listed a w
section
variable {P : Program} {ops : Array Oper} {Q : Exit → Act → World → Prop} {F : Fz} {fuel : Nat} {listed : Array Bool} {a : Act} {w : World} {o : Oper}
theorem iG {id : Nat} {l : List Oper} {w0 : World} {F0 : Fz} {L : List Blk} {M : List RowP} (S : St w0 F0 w F L M) (hm : P.follows .mixedOrders = true) (h : ∀ w', St w0 F0 w' F L M → HL P l.toArray Q F l.length (Array.replicate l.length false) a w') : (Code.region id l.toArray true).wp P Q a w := by
 have := (h { w with drawn := w.drawn + 1 } (S.tells (Below.refl w.heap.size w).drew)).out
 refine wp_region_held (S := fun w => Sat w F) hm ?_
 simpa using this
def jO (ops : Array Oper) (listed : Array Bool) (i : Nat) : Bool := Region.noSelect ops && Region.free .any ops listed i && (Region.ready .any ops listed).contains i
theorem zT {l : List Oper} (i : Nat) (hi : l[i]? = some o) (hc : jO l.toArray listed i = true) {v : Value} (hQ : ∀ c a w, Q (.panic c) (a.put o.dst v) w → Q (.panic c) a w) (hS : Sat w F) (hw : Region.wanted o (yielded l.toArray a.tmps) = true)
    (hr : ∀ w1, Sat w1 F → (execOp a.eval o).run P w1 = .ok (.value v) w1) (h : HL P l.toArray Q F fuel (listed.setIfInBounds i true) (a.put o.dst v) w) : HL P l.toArray Q F (fuel + 1) listed a w := by
 simp only [jO, Bool.and_eq_true] at hc
 exact ⟨Go.wpAnyH_take (by simpa using hi) hc.1.1 hc.1.2 hc.2 hQ (.inl ⟨hw, hr⟩) hS h.out⟩
theorem Oper.wp_exit {K K' : Act → World → Prop} (hh : o.wp P a w K (Exit.then K' Q)) : o.wp P a w K Q := by
 unfold Oper.wp at *
 generalize (execOp a.eval o).run P w = r at *
 cases r with
 | ok n w' =>
  cases n <;> simp only [Oper.upon] at hh ⊢ <;> try exact hh
 | halt x w' => cases x <;> exact hh
theorem dQ {l : List Oper} (i : Nat) (hr : Region.ready .any l.toArray listed = [i]) (hi : l[i]? = some o) (h : WL P l.toArray (Exit.then (fun a' w' => Sat w' F ∧ Go.wpAnyH P .any l.toArray Q (fun w => Sat w F) fuel (listed.setIfInBounds i true) a' w') Q) [o] a w) : HL P l.toArray Q F (fuel + 1) listed a w := by
 refine ⟨Go.wpAnyH_all hr (by simp) fun j hj => ?_⟩
 have hji : j = i := by simpa using hj
 subst hji
 have h1 := h.out
 unfold wpList at h1
 unfold wpOp
 have hi' : l.toArray[j]? = some o := by simpa using hi
 simp only [hi']
 split
 rename_i hw
 rw [if_pos hw] at h1
 rcases h1 with h1 | h1
 left
 refine Oper.wp_mono (fun a' w' hk => ?_) (Oper.wp_exit h1)
 exact hk
 exact .inr h1
 rename_i hw
 rw [if_neg hw] at h1
 exact h1
theorem dB (hS : Sat w F) (h : HL P ops Q F fuel listed a w) : Exit.then (fun a' w' => Sat w' F ∧ Go.wpAnyH P .any ops Q (fun w => Sat w F) fuel listed a' w') Q .normal a w := ⟨hS, h.out⟩
theorem jP (hr : Region.ready .any ops listed = []) (h : Q .normal a w) : HL P ops Q F fuel listed a w := ⟨Go.wpAnyH_done hr h _⟩
end
section
variable {P : Program} {Q : Exit → Act → World → Prop} {F : Fz} {fuel : Nat} {listed : Array Bool} {a : Act} {w : World} {o : Oper} {l : List Oper} {d : Option Tmp} {t : TypeId} {pos : String} {after : Array Edge} {guard : Option (Nat × Bool)} {x : Operand} {v : Value} {p : Addr} {n : Nat} {vs : Array Value}
theorem bM (i : Nat) (hi : l[i]? = some o) (v : Value) (hS : Sat w F) (hr : ∀ w1, Sat w1 F → (execOp a.eval o).run P w1 = .ok (.value v) w1) (h : HL P l.toArray Q F fuel (listed.setIfInBounds i true) (a.put o.dst v) w) (hc : jO l.toArray listed i = true := by kernel_rfl) (hQ : ∀ c a w, Q (.panic c) (a.put o.dst v) w → Q (.panic c) a w := by exact fun _ _ _ h => h) (hw : Region.wanted o (yielded l.toArray a.tmps) = true := by exact rfl) : HL P l.toArray Q F (fuel + 1) listed a w := zT i hi hc hQ hS hw hr h
theorem eD (i : Nat) (hi : l[i]? = some ⟨d, .move x, t, pos, after, guard⟩) (hS : Sat w F) (h : HL P l.toArray Q F fuel (listed.setIfInBounds i true) (a.put d v) w) (hx : ev a x = some v := by exact rfl) (hc : jO l.toArray listed i = true := by kernel_rfl) (hQ : ∀ c a w, Q (.panic c) (a.put d v) w → Q (.panic c) a w := by exact fun _ _ _ h => h) (hw : Region.wanted ⟨d, .move x, t, pos, after, guard⟩ (yielded l.toArray a.tmps) = true := by exact rfl) : HL P l.toArray Q F (fuel + 1) listed a w := zT i hi hc hQ hS hw (fun w _ => dA hx ▸ gF _) h
theorem gA (i : Nat) (hi : l[i]? = some ⟨d, .assign x, t, pos, after, guard⟩) (hS : Sat w F) (h : HL P l.toArray Q F fuel (listed.setIfInBounds i true) (a.put d v) w) (hx : ev a x = some v := by exact rfl) (hc : jO l.toArray listed i = true := by kernel_rfl) (hQ : ∀ c a w, Q (.panic c) (a.put d v) w → Q (.panic c) a w := by exact fun _ _ _ h => h) (hw : Region.wanted ⟨d, .assign x, t, pos, after, guard⟩ (yielded l.toArray a.tmps) = true := by exact rfl) : HL P l.toArray Q F (fuel + 1) listed a w := zT i hi hc hQ hS hw (fun w _ => dA hx ▸ pQ _) h
theorem ER (i : Nat) (hi : l[i]? = some ⟨d, .nilCheck x, t, pos, after, guard⟩) (hS : Sat w F) (h : HL P l.toArray Q F fuel (listed.setIfInBounds i true) (a.put d (.pointer (some p))) w) (hx : ev a x = some (.pointer (some p)) := by exact rfl) (hc : jO l.toArray listed i = true := by kernel_rfl) (hQ : ∀ c a w, Q (.panic c) (a.put d (.pointer (some p))) w → Q (.panic c) a w := by exact fun _ _ _ h => h) (hw : Region.wanted ⟨d, .nilCheck x, t, pos, after, guard⟩ (yielded l.toArray a.tmps) = true := by exact rfl) : HL P l.toArray Q F (fuel + 1) listed a w := zT i hi hc hQ hS hw (fun w _ => lP (dA hx)) h
end
def ByC (F : Fz) (cs : List Value) (b : UInt8) : Prop := cs = [bv b]
theorem ByC.mono (F F' : Fz) (x : List Value) (p : UInt8) (hl : Le F F') (h : ByC F x p) : ByC F' x p := h
theorem rB (b : UInt8) : ∀ u ∈ [bv b], u.oneCell' = true := by intro u hu; rw [List.mem_singleton.1 hu]; rfl
theorem ByC.one (F : Fz) (cs : List Value) (p : UInt8) (h : ByC F cs p) : ∀ u ∈ cs, u.oneCell' = true := by rw [h]; exact rB p
theorem rC : ∀ l : By, ((l.map fun b => [bv b]).flatten) = l.map bv
  | [] => rfl
  | b :: l => by simp [rC l]
theorem rD (F : Fz) : ∀ l : By, AllR (ByC F) (l.map fun b => [bv b]) l
  | [] => trivial
  | _ :: l => ⟨rfl, rD F l⟩
theorem JM : ∀ {xs : List (List Value)} {l : By} {F : Fz}, AllR (ByC F) xs l → xs.flatten = l.map bv
  | [], [], _, _ => rfl
  | x :: xs, b :: l, F, h => by rw [List.flatten_cons, h.1, JM h.2]; rfl
theorem Bs.sl {F : Fz} {v : Value} {l : By} (h : Bs F v l) : Sl 1 ByC F v l := ⟨l.map fun b => [bv b], by rw [rC]; exact h, rD F l, by simp⟩
theorem eA {F : Fz} {v : Value} {l : By} (h : Sl 1 ByC F v l) : Bs F v l := by
 obtain ⟨xs, h1, h2, _⟩ := h
 rw [JM h2] at h1
 exact h1
theorem kD (z : Nat) (w : World) : (convert 3 5 (.int .i64 (z : Nat))).run Tryz.prog w = .ok (bv (b8 z)) w := by
 have : (convert 3 5 (.int .i64 (z : Nat))).run Tryz.prog w = .ok (.int .u8 (IntKind.u8.wrap (z : Int))) w := by kernel_rfl
 rw [this]
 have e : IntKind.u8.wrap (z : Int) = ((b8 z).toNat : Int) := by
  rw [show IntKind.u8.wrap (z : Int) = (z : Int) % 256 from rfl]
  simp [b8]
 rw [e]; rfl
theorem gB (b : UInt8) (w : World) : (convert 5 3 (bv b)).run Tryz.prog w = .ok (.int .i64 ((b.toNat : Nat) : Int)) w := by
 have : (convert 5 3 (bv b)).run Tryz.prog w = .ok (.int .i64 (IntKind.i64.wrap (b.toNat : Int))) w := by kernel_rfl
 rw [this, jN (by omega) (by have := UInt8.toNat_lt b; omega)]
theorem HJ {P : Program} {ρ : Operand → Value} {w : World} {d : Option Tmp} {t X Y : TypeId} {x y : Operand} {pos : String} {after : Array Edge} {guard : Option (Nat × Bool)} {m n : Nat} (hx : ρ x = .int .i64 (m : Int)) (hy : ρ y = .int .u64 (n : Int)) (hn : n ≤ 64) : (execOp ρ ⟨d, .binOp .shr X x y Y, t, pos, after, guard⟩).run P w = .ok (.value (.int .i64 ((m / 2 ^ n : Nat) : Int))) w := by
 have e : (eqGuard .shr X x y (.int .i64 (m : Int)) (.int .u64 (n : Int))).run P w = .ok () w := rfl
 have h : (binOp .shr X (.int .i64 (m : Int)) (.int .u64 (n : Int))).run P w = .ok (.int .i64 ((m / 2 ^ n : Nat) : Int)) w := by
  show (Op.shift .shr .i64 (m : Int) .u64 (n : Int)).run P w = _
  unfold Op.shift
  rw [if_neg (by omega)]
  show Result.ok (Value.int .i64 (Int.fdiv (m : Int) (2 ^ (min (n : Int).toNat 64)))) w = _
  rw [Int.toNat_natCast, Nat.min_eq_left hn, Int.fdiv_eq_ediv_of_nonneg _ (show (0 : Int) ≤ 2 ^ n from Int.le_of_lt (Int.pow_pos (by decide)))]
  simp
 simp only [execOp, hx, hy, Sem.run_bind, e, Result.andThen_ok, h, Sem.run_pure]
theorem Bs.get {F : Fz} {a : Option Addr} {n c : Nat} {l : By} (h : Bs F (.slice a n c) l) {i : Nat} {b : UInt8} (hb : l[i]? = some b) : ∃ g o, a = some ⟨g, o, none⟩ ∧ bH F g (o + i * 1) = some (bv b) := by
 obtain ⟨a', c', e, _, _, _, h5⟩ := h
 injection e with e1 _ _
 subst e1
 rcases h5 with h5 | ⟨g, o, e, h6⟩
 ·rw [List.map_eq_nil_iff] at h5
  subst h5; cases hb
 ·exact ⟨g, o, e, by rw [Nat.mul_one]; exact h6 i (bv b) (by rw [List.getElem?_map, hb]; rfl)⟩
theorem St.front {w0 w : World} {F0 F : Fz} {L : List Blk} {M : List RowP} (S : St w0 F0 w F L M) {i : Nat} {b : Blk} (h : L[i]? = some b) : St w0 F0 w F (b :: L.eraseIdx i) M := by
 obtain ⟨hi, rfl⟩ := List.getElem?_eq_some_iff.1 h
 have hp : (L[i] :: L.eraseIdx i).Perm L := by
  have h1 : L.take i ++ L[i] :: L.drop (i + 1) = L := by rw [← List.drop_eq_getElem_cons hi, List.take_append_drop]
  rw [List.eraseIdx_eq_take_drop_succ]
  exact List.perm_middle.symm.trans (List.Perm.of_eq h1)
 exact ⟨S.gr, fun x hx => S.blk x (hp.mem_iff.1 hx), S.row, (hp.pairwise_iff (fun h => Ne.symm h)).2 S.bb, fun r hr x hx => S.rb r hr x (hp.mem_iff.1 hx), S.rr⟩
abbrev Bys (F : Fz) (v : Value) (l : By) : Prop := Sl 1 ByC F v l
theorem cR (F : Fz) (w : World) (v u : Value) (l m : By) (hs : Sat w F) (hv : Bs F v l) (hu : Bs F u m) :
    Calls Tryz.prog 108 #[v, u] w (cY w (.bool (l == m))) := by
 obtain ⟨a, c, rfl, _⟩ := hv.shape
 obtain ⟨a2, c2, rfl, _⟩ := hu.shape
 have S := St.start hs
 go_enter Tryz.func108, Tryz.ntmps108
 refine sk fun K1 hK1 => ?_
 refine dy ?_
 refine wn hK1 ?_
 refine sk fun K2 hK2 => ?_
 refine dx ?_
 refine dr (.string ⟨l.toArray⟩) (aX (v := (.slice a l.length c)) rfl (AD Tryz.underlying25 Tryz.underlying5 Tryz.underlying9 (S).sat hv)) ?_
 refine dx ?_
 simp only [pq]
 refine dr (.string ⟨m.toArray⟩) (aX (v := (.slice a2 m.length c2)) rfl (AD Tryz.underlying25 Tryz.underlying5 Tryz.underlying9 (S).sat hu)) ?_
 refine dr (.bool (l == m)) (UI (op := .eql) (l := l) (m := m) (b := (l == m)) (by simp) rfl rfl (rfl)) ?_
 refine dy ?_
 simp only [pq]
 refine wn hK2 ?_
 refine aO ?_
 try simp only [xt]
 refine bR (bC rfl (gD rfl)) ?_
 ·exact ⟨rfl, S.gr.below⟩
theorem oA (F : Fz) (w : World) (v u : Value) (p q : Wr) (hs : Sat w F) (hv : WrV F v p) (hu : WrV F u q) :
    Calls Tryz.prog 104 #[v, u] w (cY w (.bool (cT p q))) := by
 obtain ⟨x0, x1, x2, x3, x4, x5, rfl, h0, h1, h3⟩ := hv
 obtain ⟨y0, y1, y2, y3, y4, y5, rfl, k0, k1, k3⟩ := hu
 have S := St.start hs
 go_enter Tryz.func104, Tryz.ntmps104
 refine sk fun K1 hK1 => ?_
 refine aZ S (v := fun n => .pointer (aA n 0)) rfl (bW (v := (.agg #[(.slice x0 p.name.length x1), (.slice x2 p.key.length x3), (.bool p.gone), (.slice x4 p.value.length x5)])) rfl) (fun n2 w3 S4 => ?_)
 refine aZ S4 (v := fun n => .pointer (aA n 0)) rfl (bW (v := (.agg #[(.slice y0 q.name.length y1), (.slice y2 q.key.length y3), (.bool q.gone), (.slice y4 q.value.length y5)])) rfl) (fun n5 w6 S7 => ?_)
 simp only [pq]
 refine dy ?_
 refine wn hK1 ?_
 refine aF fun K8 hK8 => ?_
 by_cases e1 : p.name = q.name
 refine aB ?_
 refine aC ?_
 refine aL (v := bT) S7 rfl (fn2 (iY _ _)) (fC (cR _ _ _ _ p.name q.name (S7).sat h0 k0) (beq_iff_eq.2 (e1))) (fun w9 a0 => ?_)
 refine aC ?_
 refine aL (v := (.bool (p.key == q.key))) a0 rfl (fn2 (iY _ _)) (cR _ _ _ _ p.key q.key (a0).sat h1 k1) (fun a3 a1 => ?_)
 refine aC ?_
 refine wlK hK8 ?_
 refine aO ?_
 try simp only [xt]
 refine bR (bC rfl (gD rfl)) ?_
 exact ⟨by unfold cT; rw [beq_iff_eq.2 e1]; rfl, a1.gr.below⟩
 refine aB ?_
 refine aC ?_
 refine aL (v := bF) S7 rfl (fn2 (iY _ _)) (fC (cR _ _ _ _ p.name q.name (S7).sat h0 k0) (beq_eq_false_iff_ne.2 (e1))) (fun a4 a2 => ?_)
 refine aC ?_
 refine wlK hK8 ?_
 refine aO ?_
 try simp only [xt]
 refine bR (bC rfl (gD rfl)) ?_
 exact ⟨by unfold cT; rw [beq_eq_false_iff_ne.2 e1]; rfl, a2.gr.below⟩
theorem uF (F : Fz) (w : World) (v u : Value) (p q : Rd) (hs : Sat w F) (hv : RdV F v p) (hu : RdV F u q) :
    Calls Tryz.prog 129 #[v, u] w (cY w (.bool (decide (p = q)))) := by
 obtain ⟨x0, x1, x2, x3, x4, x5, rfl, h0, h1, h3⟩ := hv
 obtain ⟨y0, y1, y2, y3, y4, y5, rfl, k0, k1, k3⟩ := hu
 have S := St.start hs
 go_enter Tryz.func129, Tryz.ntmps129
 refine sk fun K1 hK1 => ?_
 refine aZ S (v := fun n => .pointer (aA n 0)) rfl (bW (v := (.agg #[(.slice x0 p.name.length x1), (.slice x2 p.key.length x3), (.bool p.wide), (.slice x4 p.last.length x5)])) rfl) (fun n2 w3 S4 => ?_)
 refine aZ S4 (v := fun n => .pointer (aA n 0)) rfl (bW (v := (.agg #[(.slice y0 q.name.length y1), (.slice y2 q.key.length y3), (.bool q.wide), (.slice y4 q.last.length y5)])) rfl) (fun n5 w6 S7 => ?_)
 simp only [pq]
 refine dy ?_
 refine wn hK1 ?_
 refine aF fun K8 hK8 => ?_
 by_cases e0 : p.wide = q.wide
 by_cases e1 : p.name = q.name
 by_cases e2 : p.key = q.key
 refine aB ?_
 refine aC ?_
 refine dr bT (oP Tryz.underlying4 rfl rfl (beq_iff_eq.2 e0)) ?_
 refine aC ?_
 refine aL (v := bT) S7 rfl (fn2 (iY _ _)) (fC (cR _ _ _ _ p.name q.name (S7).sat h0 k0) (beq_iff_eq.2 (e1))) (fun w9 a0 => ?_)
 refine aC ?_
 refine aL (v := bT) a0 rfl (fn2 (iY _ _)) (fC (cR _ _ _ _ p.key q.key (a0).sat h1 k1) (beq_iff_eq.2 (e2))) (fun a6 a1 => ?_)
 refine aC ?_
 refine aL (v := (.bool (p.last == q.last))) a1 rfl (fn2 (iY _ _)) (cR _ _ _ _ p.last q.last (a1).sat h3 k3) (fun a7 a3 => ?_)
 refine aC ?_
 refine wlK hK8 ?_
 refine aO ?_
 try simp only [xt]
 refine bR (bC rfl (gD rfl)) ?_
 exact ⟨by rw [show decide (p = q) = (p.last == q.last) from by rw [Bool.eq_iff_iff, decide_eq_true_iff, beq_iff_eq]; exact ⟨fun e => by rw [e], fun e => by cases p; cases q; simp_all⟩], a3.gr.below⟩
 refine aB ?_
 refine aC ?_
 refine dr bT (oP Tryz.underlying4 rfl rfl (beq_iff_eq.2 e0)) ?_
 refine aC ?_
 refine aL (v := bT) S7 rfl (fn2 (iY _ _)) (fC (cR _ _ _ _ p.name q.name (S7).sat h0 k0) (beq_iff_eq.2 (e1))) (fun a8 a2 => ?_)
 refine aC ?_
 refine aL (v := bF) a2 rfl (fn2 (iY _ _)) (fC (cR _ _ _ _ p.key q.key (a2).sat h1 k1) (beq_eq_false_iff_ne.2 (e2))) (fun a9 a4 => ?_)
 refine aC ?_
 refine wlK hK8 ?_
 refine aO ?_
 try simp only [xt]
 refine bR (bC rfl (gD rfl)) ?_
 exact ⟨by rw [decide_eq_false (fun e => e2 (by rw [e]))], a4.gr.below⟩
 refine aB ?_
 refine aC ?_
 refine dr bT (oP Tryz.underlying4 rfl rfl (beq_iff_eq.2 e0)) ?_
 refine aC ?_
 refine aL (v := bF) S7 rfl (fn2 (iY _ _)) (fC (cR _ _ _ _ p.name q.name (S7).sat h0 k0) (beq_eq_false_iff_ne.2 (e1))) (fun b0 a5 => ?_)
 refine aC ?_
 refine wlK hK8 ?_
 refine aO ?_
 try simp only [xt]
 refine bR (bC rfl (gD rfl)) ?_
 exact ⟨by rw [decide_eq_false (fun e => e1 (by rw [e]))], a5.gr.below⟩
 refine aB ?_
 refine aC ?_
 refine dr bF (oP Tryz.underlying4 rfl rfl (beq_eq_false_iff_ne.2 e0)) ?_
 refine aC ?_
 refine wlK hK8 ?_
 refine aO ?_
 try simp only [xt]
 refine bR (bC rfl (gD rfl)) ?_
 exact ⟨by rw [decide_eq_false (fun e => e0 (by rw [e]))], S7.gr.below⟩
def rdE (r : Rd) : Int := if gX r.name.length ≠ 0 then gX r.name.length else if cF r.key.length ≠ 0 then cF r.key.length else if r.wide = true then cF r.last.length else if 0 < r.last.length then 4 else 0
theorem BS (F : Fz) (w : World) (v : Value) (r : Rd) (hs : Sat w F) (hv : RdV F v r) :
    Calls Tryz.prog 126 #[v] w (cY w (.int .i64 (rdE r))) := by
 obtain ⟨x0, x1, x2, x3, x4, x5, rfl, h0, h1, h3⟩ := hv
 have S := St.start hs
 go_enter Tryz.func126, Tryz.ntmps126
 refine sk fun K1 hK1 => ?_
 refine aZ S (v := fun n => .pointer (aA n 0)) rfl (bW (v := (.agg #[(.slice x0 r.name.length x1), (.slice x2 r.key.length x3), (.bool r.wide), (.slice x4 r.last.length x5)])) rfl) (fun n2 w3 S4 => ?_)
 refine dy ?_
 refine wn hK1 ?_
 refine aF fun K5 hK5 => ?_
 refine sk fun K6 hK6 => ?_
 refine df (BB _ _) ?_
 refine dl (bD _) S4 0 ?_
 simp only [pq]
 refine aL (v := (.int .i64 (gX r.name.length))) S4 rfl (fn1 (GR _ _)) (fN (gS _ _ _ _)) (fun w7 S8 => ?_)
 refine dy ?_
 refine wn hK6 ?_
 refine sk fun K9 hK9 => ?_
 refine dx ?_
 simp only [pq]
 by_cases hc9 : (gX r.name.length) = (0 : Int)
 refine lQ ?_
 refine wn hK9 ?_
 refine aG ?_
 refine aI ?_
 refine hK5 _ _ ?_
 refine aF fun b6 a3 => ?_
 refine sk fun b7 a4 => ?_
 refine df (BC _ _) ?_
 refine dl (bD _) S8 0 ?_
 simp only [pq]
 refine aL (v := (.int .i64 (cF r.key.length))) S8 rfl (fn1 (uQ _ _)) (fN (kF _ _ _ r.key h1)) (fun b9 a0 => ?_)
 refine dy ?_
 refine wn a4 ?_
 refine sk fun c0 a1 => ?_
 refine dx ?_
 simp only [pq]
 by_cases a5 : (cF r.key.length) = (0 : Int)
 refine lQ ?_
 refine wn a1 ?_
 refine aG ?_
 refine aI ?_
 refine a3 _ _ ?_
 refine aF fun c1 a6 => ?_
 refine sk fun c2 a7 => ?_
 refine df (BD _ _) ?_
 refine dl (iE _) a0 0 ?_
 refine dr (.bool (!r.wide)) (xO rfl rfl) ?_
 simp only [pq]
 refine wn a7 ?_
 refine wp_cond_split rfl (fun hwd => ?_) (fun hwd => ?_)
 refine aF fun c3 a8 => ?_
 refine sk fun c4 a2 => ?_
 refine df (wD _ _) ?_
 refine dl (bD _) a0 0 ?_
 refine dn Tryz.underlying25 ?_
 simp only [pq]
 by_cases b4 : 0 < r.last.length
 refine pR ?_
 refine wn a2 ?_
 refine aK ?_
 refine sk fun c5 a9 => ?_
 refine dy ?_
 refine wn a9 ?_
 refine aO ?_
 try simp only [xt]
 refine bR (bC rfl (gD rfl)) ?_
 exact ⟨by unfold rdE; rw [if_neg (by omega), if_neg (by omega), if_neg (by simpa using hwd), if_pos (by omega)], a0.gr.below⟩
 refine lF ?_
 simp only [pq]
 refine wn a2 ?_
 refine aG ?_
 refine aI ?_
 refine a8 _ _ ?_
 refine sk fun c6 b0 => ?_
 refine dy ?_
 refine wn b0 ?_
 refine aO ?_
 try simp only [xt]
 refine bR (bC rfl (gD rfl)) ?_
 exact ⟨by unfold rdE; rw [if_neg (by omega), if_neg (by omega), if_neg (by simpa using hwd), if_neg (by omega)], a0.gr.below⟩
 refine aI ?_
 refine a6 _ _ ?_
 refine sk fun c7 b1 => ?_
 refine df (wD _ _) ?_
 refine dl (bD _) a0 0 ?_
 simp only [pq]
 refine aL (v := (.int .i64 (cF r.last.length))) a0 rfl (fn1 (uQ _ _)) (fN (kF _ _ _ r.last h3)) (fun c8 b5 => ?_)
 refine dy ?_
 refine wn b1 ?_
 refine aO ?_
 try simp only [xt]
 refine bR (bC rfl (gD rfl)) ?_
 exact ⟨by unfold rdE; rw [if_neg (by omega), if_neg (by omega), if_pos (by simpa using hwd)], b5.gr.below⟩
 refine mS ?_
 refine wn a1 ?_
 refine aK ?_
 refine sk fun c9 b2 => ?_
 refine dx ?_
 refine dy ?_
 simp only [pq]
 refine wn b2 ?_
 refine aO ?_
 try simp only [xt]
 refine bR (bC rfl (gD rfl)) ?_
 exact ⟨by unfold rdE; rw [if_neg (by omega), if_pos a5], a0.gr.below⟩
 refine mS ?_
 refine wn hK9 ?_
 refine aK ?_
 refine sk fun d0 b3 => ?_
 refine dx ?_
 refine dy ?_
 simp only [pq]
 refine wn b3 ?_
 refine aO ?_
 try simp only [xt]
 refine bR (bC rfl (gD rfl)) ?_
 exact ⟨by unfold rdE; rw [if_pos hc9], S8.gr.below⟩
theorem ES (F : Fz) (w : World) (v : Value) (r : Rd) (hs : Sat w F) (hv : RdV F v r) (hb0 : r.name.length ≤ 100000) (hb1 : r.key.length ≤ 100000) (hb2 : r.last.length ≤ 100000) :
    Calls Tryz.prog 130 #[v] w (dO w F fun F' u => RdV F' u r) := by
 obtain ⟨x0, x1, x2, x3, x4, x5, rfl, h0, h1, h3⟩ := hv
 have S := St.start hs
 go_enter Tryz.func130, Tryz.ntmps130
 refine sk fun K1 hK1 => ?_
 refine aZ S (v := fun n => .pointer (aA n 0)) rfl (bW (v := (.agg #[(.slice x0 r.name.length x1), (.slice x2 r.key.length x3), (.bool r.wide), (.slice x4 r.last.length x5)])) rfl) (fun n2 w3 S4 => ?_)
 refine sA S4 (rZ _) fun n5 w6 S7 => ?_
 refine wn hK1 ?_
 refine aF fun K8 hK8 => ?_
 refine aQ F 11 [(2, .made (fun F' u => Bs F' u r.name)), (5, .made (fun F' u => Bs F' u r.key)), (10, .made (fun F' u => Bs F' u r.last))] (by kernel_rfl) (by kernel_rfl) ?_
 simp only [cV]
 refine gf (BB _ _) ?_
 refine gl bD S7 1 ?_
 simp only [pq]
 refine dJ rfl rfl (fun w9 C9 hF => bX (cP (vs := #[(.slice x0 r.name.length x1)]) (kX rfl) rfl (gV _ _)) (dI S7.sat C9 (dC _ _ _ r.name ((St.tells S7 C9)).sat h0 (by omega)))) (fun c4 => ?_)
 refine gf (BC _ _) ?_
 refine gl bD S7 1 ?_
 simp only [pq]
 refine dJ rfl rfl (fun w9 C9 hF => bX (cP (vs := #[(.slice x2 r.key.length x3)]) (kX rfl) rfl (gV _ _)) (dI S7.sat C9 (dC _ _ _ r.key ((St.tells S7 C9)).sat h1 (by omega)))) (fun c5 => ?_)
 refine gf (BD _ _) ?_
 refine gl iE S7 1 ?_
 refine gf (wD _ _) ?_
 simp only [pq]
 refine gl bD S7 1 ?_
 simp only [pq]
 refine dJ rfl rfl (fun w9 C9 hF => bX (cP (vs := #[(.slice x4 r.last.length x5)]) (kX rfl) rfl (gV _ _)) (dI S7.sat C9 (dC _ _ _ r.last ((St.tells S7 C9)).sat h3 (by omega)))) (fun c6 => ?_)
 refine bN ?_
 intro c7 b7 a0
 obtain ⟨a1, a2, b9⟩ := a0.get 2 rfl rfl
 obtain ⟨a3, a4, c0⟩ := a0.get 5 rfl rfl
 obtain ⟨a5, a6, c1⟩ := a0.get 10 rfl rfl
 have c2 := St.gives S7 ((a2.both a4).both a6)
 have c3 : Le _ _ := ((a2.both a4).both a6).le S7.sat
 have b3 := (b9.mono ((kM a1 a3).trans (kM (both a1 a3) a5)))
 have b4 := (c0.mono ((lN a2.sat a4.sat).trans (kM (both a1 a3) a5)))
 have b5 := (c1.mono (lN (a2.both a4).sat a6.sat))
 generalize (both (both a1 a3) a5) = c8 at *
 obtain ⟨a7, a8, rfl, _⟩ := b3.shape
 obtain ⟨a9, b0, rfl, _⟩ := b4.shape
 obtain ⟨b1, b2, rfl, _⟩ := b5.shape
 clear a0
 simp only [cW]
 refine dr (.agg #[(.slice a7 r.name.length a8), (.slice a9 r.key.length b0), (.bool r.wide), (.slice b1 r.last.length b2)]) (aJ (mE rfl rfl rfl rfl) (by kernel_rfl)) ?_
 simp only [pq]
 refine sW 0 c2 (dE) fun c9 b6 => ?_
 refine wlK hK8 ?_
 refine aO ?_
 try simp only [xt]
 refine bR (PA rfl ⟨_, rfl, lR b6 0 Tryz.underlying179 (dE)⟩) ?_
 exact ⟨_, _, rfl, b6.gr, _, _, _, _, _, _, rfl, b3, b4, b5⟩
theorem rL (F : Fz) (w : World) (v : Value) (ws : List Wr) (hs : Sat w F) (hv : Wrs F v ws) (hl : ws.length ≤ 100000) (hb : ∀ r ∈ ws, r.name.length ≤ 100000 ∧ r.key.length ≤ 100000 ∧ r.value.length ≤ 100000) :
    Calls Tryz.prog 114 #[v] w (rX w F 4 WrC 39 ws) := by
 obtain ⟨a, c, rfl, hc1, hc2⟩ := Sl.shape hv
 unfold maxLen at hc2
 obtain ⟨e3, b6, b7, b9, c0⟩ := info_parts GF
 have S := St.start hs
 go_enter Tryz.func114, Tryz.ntmps114
 refine sk fun K1 hK1 => ?_
 refine dy ?_
 refine wn hK1 ?_
 refine sk fun K2 hK2 => ?_
 refine dy ?_
 refine wn hK2 ?_
 refine aF fun K3 hK3 => ?_
 refine sk fun K4 hK4 => ?_
 refine aC ?_
 refine wn hK4 ?_
 refine aM ?_
 have S5 := St.addNil S 4 WrC WrC.mono 39 w.heap.size
 refine aW (fun mm aa w8 => ∃ (k : Nat) (v : Value) (F6 : Fz) (u7 : Nat → Value), mm = ws.length - k ∧ u7 = dY aa ∧ aa = ⟨([(.slice a ws.length c), undef, Zn, v, undef, (u7 5), (.slice a ws.length c), (nI ws.length), (nI k)] ++ (usF u7 9 19 [undef])).toArray, []⟩ ∧ St w F w8 F6 [] [bV 4 WrC WrC.mono 39 w.heap.size v (ws.take k)] ∧ Le F F6 ∧ (k ≤ ws.length)) _ ⟨0, Zn, F, _, rfl, rfl, rfl, S5, Le.refl _, (by omega)⟩ ?_
 rintro m9 h5 h6 ⟨k, v, F6, u7, rfl, -, hfr, a2, a3, hk⟩ h7 c1
 simp only [uzF, Nat.reduceAdd] at hfr; subst hfr
 refine sk fun h8 a4 => ?_
 by_cases hc9 : k < ws.length
 refine fA ?_
 refine wn a4 ?_
 refine aF fun h9 c2 => ?_
 refine aK ?_
 refine aI ?_
 refine c2 _ _ ?_
 refine aF fun i0 c3 => ?_
 refine aM ?_
 refine aF fun i1 c4 => ?_
 obtain ⟨p, hp⟩ : ∃ p, ws[k]? = some p := ⟨ws[k], List.getElem?_eq_getElem hc9⟩
 obtain ⟨hb0, hb1, hb2⟩ := hb p (List.mem_of_getElem? hp)
 have htk : (ws.take k).length = k := by rw [List.length_take]; omega
 obtain ⟨e4, e5, c5, c6, c7, c8, c9, d0, d1, e6, e7, e8, e9, f0, f1, f2⟩ := Wrs.get (hv.mono a3) hp
 refine aB ?_
 refine dr (pP e4 (e5 + k * 4)) (bK (i := k) (sz := 4) Tryz.underlying40 (eT _) rfl c5 rfl (by omega) rfl) ?_
 refine dr _ (aE rfl (cU Tryz.underlying39 rfl (bI) (eL (St.fz a2 e6) (St.fz a2 e7) (St.fz a2 e8) (St.fz a2 e9)))) ?_
 simp only [pq]
 refine sA a2 (kC _) fun i2 i3 f3 => ?_
 refine sW 0 f3 (bI) fun i4 a0 => ?_
 refine wlK c4 ?_
 refine aQ F6 14 [(3, .made (fun F' u => Bs F' u p.name)), (6, .made (fun F' u => Bs F' u p.key)), (11, .made (fun F' u => Bs F' u p.value)), (12, .made (fun F' u => WrV F' u (⟨p.name, p.key, p.gone, p.value⟩ : Wr))), (13, .made (fun F' u => Wrs F' u [(⟨p.name, p.key, p.gone, p.value⟩ : Wr)]))] (by kernel_rfl) (by kernel_rfl) ?_
 simp only [cV]
 refine gm ?_
 simp only [pq]
 refine gf (GG _ _) ?_
 refine gl bD a0 0 ?_
 simp only [pq]
 refine dJ rfl rfl (fun b2 a1 hF => bX (cP (vs := #[(.slice c6 p.name.length c7)]) (kX rfl) rfl (gV _ _)) (dI a0.sat a1 (dC _ _ _ p.name ((St.tells a0 a1)).sat f0 (by omega)))) (fun i5 => ?_)
 refine gf (zM _ _) ?_
 refine gl bD a0 0 ?_
 simp only [pq]
 refine dJ rfl rfl (fun b2 a1 hF => bX (cP (vs := #[(.slice c8 p.key.length c9)]) (kX rfl) rfl (gV _ _)) (dI a0.sat a1 (dC _ _ _ p.key ((St.tells a0 a1)).sat f1 (by omega)))) (fun i6 => ?_)
 refine gf (wC _ _) ?_
 refine gl iE a0 0 ?_
 refine gf (zN _ _) ?_
 simp only [pq]
 refine gl bD a0 0 ?_
 simp only [pq]
 refine dJ rfl rfl (fun b2 a1 hF => bX (cP (vs := #[(.slice d0 p.value.length d1)]) (kX rfl) rfl (gV _ _)) (dI a0.sat a1 (dC _ _ _ p.value ((St.tells a0 a1)).sat f2 (by omega)))) (fun i7 => ?_)
 simp only [pq]
 refine dJ rfl rfl (fun b2 a1 hF_ => ?_) (fun i8 => ?_)
 obtain ⟨b3, d2, f4⟩ := hF_.get 3 (by kernel_rfl) rfl rfl
 obtain ⟨b4, d3, f5⟩ := hF_.get 6 (by kernel_rfl) rfl rfl
 obtain ⟨d4, e0, f6⟩ := hF_.get 11 (by kernel_rfl) rfl rfl
 have hR0 := (f4.mono ((kM b3 b4).trans (kM (both b3 b4) d4)))
 obtain ⟨f7, f8, rfl, _⟩ := hR0.shape
 have hR1 := (f5.mono ((lN d2.sat d3.sat).trans (kM (both b3 b4) d4)))
 obtain ⟨f9, g0, rfl, _⟩ := hR1.shape
 have hR3 := (f6.mono (lN (d2.both d3).sat e0.sat))
 obtain ⟨g1, g2, rfl, _⟩ := hR3.shape
 exact fY (aJ (mE rfl rfl rfl rfl) (by kernel_rfl)) ⟨(both (both b3 b4) d4), ((d2.both d3).both e0), ⟨_, _, _, _, _, _, rfl, hR0, hR1, hR3⟩⟩ (Below.refl _ _)
 simp only [pq]
 refine dJ rfl rfl (fun b2 a1 hF_ => ?_) (fun i9 => ?_)
 obtain ⟨j0, g3, g4⟩ := hF_.get 12 (by kernel_rfl) rfl rfl
 obtain ⟨a5, a6, a7, a8, a9, b0, rfl, g5, g6, g7⟩ := g4
 exact sI (k := 4) (R := WrC) (hR := WrC.mono) (p := (⟨p.name, p.key, p.gone, p.value⟩ : Wr)) (cs := [.slice a5 _ a6, .slice a7 _ a8, _, .slice a9 _ b0]) (E := 39) g3 ⟨_, _, _, _, rfl, g5, g6, rfl, g7⟩ rfl (bS (E := 39) (cells := #[.slice a5 _ a6, .slice a7 _ a8, _, .slice a9 _ b0]) (cG rfl) (fun w => by kernel_rfl))
 refine bN ?_
 intro j1 g8 b1
 obtain ⟨g9, e1, h0⟩ := b1.get 13 rfl rfl
 have d5 := St.gives a0 e1
 have d6 : Le _ _ := e1.le a0.sat
 have e2 := h0
 generalize g9 = h1 at *
 obtain ⟨d7, d8, rfl, _⟩ := Sl.shape e2
 clear b1
 simp only [cW]
 refine eG (r := 0) (u := (.slice d7 [(⟨p.name, p.key, p.gone, p.value⟩ : Wr)].length d8)) d5 rfl e3 (.agg #[Zn, Zn, bF, Zn]) 80 Tryz.underlying40 b6 b7 b9 c0 rfl (by decide) rfl rfl rfl (Sl.toW e2 (d5).sat) (fun F cs p h => WrC.oneCell h) (Nat.le_refl _) d5.gr.below.size (by unfold maxLen; simp only [List.length_take, List.length_cons, List.length_nil]; omega) (by simp only [List.length_take, List.length_cons, List.length_nil]; omega) ?_
 intro h2 j2 b5 h3
 simp only [pq]
 refine dy ?_
 refine wlK c3 ?_
 refine aB ?_
 refine cD (k + 1) ?_
 refine dx ?_
 simp only [pq]
 refine aH ?_
 have b5 := St.drop b5 (.cons _ (List.Sublist.refl _))
 have hpe : (⟨p.name, p.key, p.gone, p.value⟩ : Wr) = p := rfl
 rw [hpe, ← fL hp] at b5
 exact c1 _ _ _ (by omega) ⟨(k + 1), h2, h1, _, rfl, rfl, rfl, b5, (a3.trans d6), (by omega)⟩
 refine eM ?_
 refine wn a4 ?_
 refine aF fun j3 h4 => ?_
 refine aG ?_
 refine cS ?_
 refine hK3 _ _ ?_
 refine sk fun j4 d9 => ?_
 refine aC ?_
 refine wn d9 ?_
 refine aO ?_
 try simp only [xt]
 refine bR (bC rfl (gD rfl)) ?_
 have hend : ws.take k = ws := List.take_of_length_le (by omega)
 have ho := a2.own (i := 0) rfl
 rw [hend] at ho
 exact ⟨_, _, rfl, a2.gr, ho⟩
theorem BT (F : Fz) (w : World) (v : Value) (ws : List Wr) (hs : Sat w F) (hv : Wrs F v ws) (hl : ws.length ≤ 100000) (hb : ∀ r ∈ ws, r.name.length ≤ 100000 ∧ r.key.length ≤ 100000 ∧ r.value.length ≤ 100000) :
    Calls Tryz.prog 114 #[v] w (dO w F fun F' u => Wrs F' u ws) := wO WrC.mono (rL F w v ws hs hv hl hb)
end Go.Proofs.YtilgpdpooildcaaGreatDoor
