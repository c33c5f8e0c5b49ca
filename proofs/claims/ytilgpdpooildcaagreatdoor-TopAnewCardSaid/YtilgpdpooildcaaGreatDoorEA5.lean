/- Rules, plain laws and walks: F3 F4 K4 K5 K6 S8 S9 S10 MH BY -/
import Derived.Test.YtilgpdpooildcaaGreatDoorEA4
import Derived.OrdersHeld
namespace Go.Proofs.YtilgpdpooildcaaGreatDoor
set_option maxHeartbeats 8000000
open Go.RowKit
set_option maxRecDepth 100000
set_option linter.unusedVariables false
set_option linter.unusedSimpArgs false
theorem sF {l : aW} {r : Wr} (h : wrE r ≠ 0) : dW l [r] = (wrE r, []) := by unfold dW; rw [zZb h]
theorem BZ {l : aW} {r : Wr} (h : wrE r = 0) (hw : gF l r = none) : dW l [r] = (11, []) := by unfold dW; rw [zZa (by simp [h]), hw]
theorem pY {l g : aW} {r : Wr} (h : wrE r = 0) (hw : gF l r = some g) : dW l [r] = (0, g) := by unfold dW; rw [zZa (by simp [h]), hw]; rfl
theorem AH (F : Fz) (w : World) (v u : Value) (l : List Pr) (k : By) (hs : Sat w F) (hv : Prs F v l) (hu : Bs F u k) (ok : TreeOk 60 l) (hk : cQ k.length ≠ 0) :
    Calls Tryz.prog 47 #[v, u] w (dF w F (wL [] (cQ k.length))) := by
 have := AG F w v u l k hs hv hu ok
 unfold VJ VI at this
 rwa [zZa hk] at this
theorem AI (F : Fz) (w : World) (v u : Value) (l : List Pr) (p : Pr) (hs : Sat w F) (hv : Prs F v l) (hu : tM F u p) (ok : TreeOk 60 l) (hk : p.1.length ≤ 100000) (hx : p.2.length ≤ 100000) (h : gA p ≠ 0) :
    Calls Tryz.prog 48 #[v, u] w (dF w F (wL [] (gA p))) := by
 have := EB F w v u l p hs hv hu ok hk hx
 have he : vS l p = gA p := by unfold vS; rw [zZb h]
 unfold MF at this
 rwa [he, zZa h] at this
theorem sG (F : Fz) (w : World) (v u : Value) (l : List Pr) (p : Pr) (hs : Sat w F) (hv : Prs F v l) (hu : tM F u p) (ok : TreeOk 60 l) (hk : p.1.length ≤ 100000) (hx : p.2.length ≤ 100000) (h : gA p = 0) (h2 : 60 < (fG l p.1 p.2).length) :
    Calls Tryz.prog 48 #[v, u] w (dF w F (wL [] 11)) := by
 have := EB F w v u l p hs hv hu ok hk hx
 have he : vS l p = 11 := by unfold vS; rw [zZa (by simp [h]), zZb h2]
 unfold MF at this
 rwa [he, zZa (by decide)] at this
theorem uA (F : Fz) (w : World) (v u : Value) (l : List Pr) (p : Pr) (hs : Sat w F) (hv : Prs F v l) (hu : tM F u p) (ok : TreeOk 60 l) (hk : p.1.length ≤ 100000) (hx : p.2.length ≤ 100000) (h : gA p = 0) (h2 : ¬ 60 < (fG l p.1 p.2).length) :
    Calls Tryz.prog 48 #[v, u] w (dF w F (wL (fG l p.1 p.2) 0)) := by
 have := EB F w v u l p hs hv hu ok hk hx
 have he : vS l p = 0 := by unfold vS; rw [zZa (by simp [h]), zZa h2]
 unfold MF at this
 rwa [he, zZb rfl] at this
theorem TR {F : Fz} {w : World} {v u : Value} {l : aW} {k : By} {b : Bool} (hs : Sat w F) (hv : Tns F v l) (hu : Bs F u k) (hr : iU l) (hl : l.length ≤ 1000000) (h : fO l k = b) :
    Calls Tryz.prog 46 #[v, u] w (cT w (.tuple #[.int .i64 (aT l k : Nat), .bool b])) := by
 subst h; exact EE F w v u l k hs hv hu hr hl
theorem hH {l : aW} {r : Wr} {O N : List Pr} (hO : bP l r.name = O) (hN : jK r O = N) : gF l r = if r.gone = false ∧ 60 < N.length then none else if N = [] then some (hJ l r.name) else if 8 < (fG l r.name N).length then none else some (fG l r.name N) := by
 subst hO; subst hN; rfl
theorem oF {r : Wr} {O : List Pr} (h : r.gone = true) : jK r O = hJ O r.key := by unfold jK; rw [zZb h]
theorem mE {r : Wr} {O : List Pr} (h : r.gone = false) : jK r O = fG O r.key r.value := by unfold jK; rw [zZa (by rw [h]; simp)]
theorem CA {N : List Pr} (h : N.length = 0) : N = [] := List.eq_nil_of_length_eq_zero h
theorem vD {N : List Pr} (h : ¬ N.length = 0) : N ≠ [] := fun e => h (by rw [e]; rfl)
theorem MI {l : aW} (hr : iU l) {k : By} (h : fO l k = true) (N : List Pr) : fG l k N = l.set (aT l k) (k, N) := by unfold fG; rw [zZb h]
theorem MJ {l : aW} {k : By} (h : fO l k = false) (N : List Pr) : fG l k N = l.take (aT l k) ++ (k, N) :: l.drop (aT l k) := by unfold fG; rw [zZa (by rw [h]; simp)]
theorem MK {l : aW} {k : By} (h : fO l k = true) : hJ l k = l.take (aT l k) ++ l.drop (aT l k + 1) := by unfold hJ; rw [zZb h]
theorem ML {l : aW} {k : By} (h : fO l k = false) : hJ l k = l := by unfold hJ; rw [zZa (by rw [h]; simp)]
theorem QO {w0 w : World} {F0 F : Fz} {L0 : List Blk} {M0 : List RowP} {v u : Value} {l : aW} {r : Wr}
    (S : St w0 F0 w F L0 (cU 2 TnC TnC.mono 66 w0.heap.size v l :: M0)) (hu : WrV F u r) (ok : ForestOk 60 l) (hb0 : r.name.length ≤ 100000) (hb1 : r.key.length ≤ 100000) (hb2 : r.value.length ≤ 100000) :
    Calls Tryz.prog 34 #[v, u] w fun e w' => ∃ v', e = .returned (.tuple #[v', .int .i64 (dW l [r]).1]) ∧ ∃ F', Le F F' ∧
      (((dW l [r]).1 = 0 ∧ St w0 F0 w' F' L0 (cU 2 TnC TnC.mono 66 w0.heap.size v' (dW l [r]).2 :: M0)) ∨ ((dW l [r]).1 ≠ 0 ∧ v' = .slice none 0 0 ∧ St w0 F0 w' F' L0 M0)) := by
 obtain ⟨a, c, rfl, hc1, hc2⟩ := (S.own (i := 0) rfl).shape
 obtain ⟨x0, y0, x1, y1, x3, y3, rfl, h0, h1, h3⟩ := hu
 unfold maxLen at hc2
 obtain ⟨cb, r9, s0, s1, s2⟩ := info_parts uY
 go_enter Tryz.func34, Tryz.ntmps34
 refine sk fun K1 hK1 => ?_
 refine bH S (v := fun n => .pointer (aA n 0)) rfl (bX (v := (.agg #[(.slice x0 r.name.length y0), (.slice x1 r.key.length y1), (.bool r.gone), (.slice x3 r.value.length y3)])) rfl) (fun n2 w3 S4 => ?_)
 iterate 2 refine dy ?_
 refine wn hK1 ?_
 refine aE fun K5 hK5 => ?_
 refine sk fun K6 hK6 => ?_
 refine aC ?_
 refine aJ (v := (.int .i64 (iL r.name.length))) S4 rfl (fn1 (JX _ _)) (dL (iC _ _ _ _)) (fun w7 S8 => ?_)
 refine dy ?_
 refine wn hK6 ?_
 refine sk fun K9 hK9 => ?_
 refine dx ?_
 simp only [pq]
 by_cases d6 : (iL r.name.length) = (0 : Int)
 refine jJ ?_
 refine wn hK9 ?_
 refine aF ?_
 refine aH ?_
 refine hK5 _ _ ?_
 refine aE fun cc d7 => ?_
 have hl8 := ok.len
 have hpl : aT l r.name ≤ l.length := kP _ _ _
 cases hh : fO l r.name with
 | false =>
  have hO := HO hh
  refine aB ?_
  refine aC ?_
  obtain ⟨cd, j9, k0, d8⟩ := oR S8 (i := 0) rfl
  refine aJ (v := (.tuple #[(nI (aT l r.name)), bF])) S8 rfl (fn2 (QD _ _)) (TR j9 d8 (h0.mono k0) ok.rise (by omega) hh) (fun ce b5 => ?_)
  refine aC ?_
  refine wlK d7 ?_
  refine sk fun cf k1 => ?_
  refine aC ?_
  refine wn k1 ?_
  refine aE fun cg k2 => ?_
  refine sk fun ch k3 => ?_
  refine dx ?_
  refine wn k3 ?_
  refine aF ?_
  refine aH ?_
  refine k2 _ _ ?_
  refine sk fun ci k4 => ?_
  refine dy ?_
  refine wn k4 ?_
  refine aE fun cj a5 => ?_
  refine sk fun ck k5 => ?_
  refine aC ?_
  refine wn k5 ?_
  refine wp_cond_split rfl (fun hgone => ?_) (fun hgone => ?_)
  refine aE fun cl d9 => ?_
  by_cases hk : cQ r.key.length = 0
  refine aB ?_
  refine aC ?_
  refine aR b5 rfl (fn2 (DV _ _)) (wM _ _ _ _ ([] : List Pr) r.key (b5).sat (Sl.nil _ _ _) h1 (TreeOk.nil 60) (iX.1 hk)) ?_
  intro cm cn co e0 a7 s3
  obtain ⟨_, rfl, j7⟩ := s3
  obtain ⟨j8, e1, rfl, q6, s4⟩ := Sl.shape j7
  unfold maxLen at s4
  have q6 : (hJ ([] : List Pr) r.key).length ≤ e1 := q6
  have j7 : Prs _ (.slice j8 (hJ ([] : List Pr) r.key).length e1) (hJ ([] : List Pr) r.key) := j7
  refine aC ?_
  refine wlK d9 ?_
  refine sk fun cp e2 => ?_
  refine dx ?_
  refine dr bT (dH (b := true) rfl rfl (by decide)) ?_
  refine aC ?_
  by_cases k6 : 0 < r.value.length
  refine qX ?_
  refine dp ?_
  refine wn e2 ?_
  refine aI ?_
  refine aB ?_
  refine dy ?_
  simp only [pq]
  refine wlK a5 ?_
  refine aE fun cq s5 => ?_
  refine aN ?_
  refine sk fun cr k7 => ?_
  refine dx ?_
  refine dr bT (cH (b := true) rfl rfl (by decide)) ?_
  refine dy ?_
  simp only [pq]
  refine wn k7 ?_
  refine aI ?_
  refine sk fun ct k8 => ?_
  refine aC ?_
  refine wn k8 ?_
  refine aO ?_
  try simp only [xt]
  refine bR (cI rfl (gD rfl) (gD rfl)) ?_
  skip
  have hwe : wrE r = 4 := by unfold wrE; rw [zZa (by omega), zZb hgone, zZa (by omega), zZb (by omega)]
  have hne : wrE r ≠ 0 := by rw [hwe]; decide
  have s6 := St.drop e0 (.cons _ (zZd _))
  rw [sF hne]
  refine ⟨_, by rw [hwe], _, a7, .inr ⟨hne, rfl, St.dropRow s6 (.cons _ (.refl _))⟩⟩
  refine lS ?_
  refine dp ?_
  refine wn e2 ?_
  refine aF ?_
  refine aH ?_
  refine a5 _ _ ?_
  refine aE fun cu k9 => ?_
  refine aN ?_
  refine sk fun cv l0 => ?_
  refine dx ?_
  refine dr bF (cH (b := false) rfl rfl (by decide)) ?_
  refine dy ?_
  simp only [pq]
  refine wn l0 ?_
  refine aF ?_
  refine sk fun cw l1 => ?_
  refine aC ?_
  refine wn l1 ?_
  refine aF ?_
  refine sk fun cx l2 => ?_
  refine aC ?_
  refine wn l2 ?_
  refine aF ?_
  refine sk fun cy e3 => ?_
  refine aC ?_
  by_cases a3 : (hJ ([] : List Pr) r.key).length = 0
  refine iA ?_
  refine dy ?_
  refine wn e3 ?_
  refine aI ?_
  refine sk fun cz l3 => ?_
  refine aC ?_
  refine wn l3 ?_
  refine aO ?_
  try simp only [xt]
  refine bR (cI rfl (gD rfl) (gD rfl)) ?_
  skip
  have hw0 : wrE r = 0 := by unfold wrE; rw [zZa (by omega), zZb hgone, zZa (by omega), zZa (by omega)]
  have hwf := hH hO (oF hgone)
  rw [zZa (fun h => by rw [hgone] at h; simp at h)] at hwf
  rw [zZb (CA a3), ML hh] at hwf
  have s7 := St.drop e0 (.cons _ (zZd _))
  rw [pY hw0 hwf]
  exact ⟨_, rfl, _, a7, .inl ⟨rfl, s7⟩⟩
  refine gH ?_
  refine dy ?_
  refine wn e3 ?_
  refine aF ?_
  refine sk fun db e4 => ?_
  refine aC ?_
  by_cases l4 : l.length = 8
  refine iA ?_
  refine dy ?_
  refine wn e4 ?_
  refine aI ?_
  refine sk fun dc l5 => ?_
  refine aC ?_
  refine wn l5 ?_
  refine aO ?_
  try simp only [xt]
  refine bR (cI rfl (gD rfl) (gD rfl)) ?_
  skip
  have hw0 : wrE r = 0 := by unfold wrE; rw [zZa (by omega), zZb hgone, zZa (by omega), zZa (by omega)]
  have hwf := hH hO (oF hgone)
  rw [zZa (fun h => by rw [hgone] at h; simp at h)] at hwf
  rw [zZa (vD a3), zZb (by rw [jP, zZa (by rw [hh]; simp)]; omega)] at hwf
  have s8 := St.drop e0 (.cons _ (zZd _))
  rw [BZ hw0 hwf]
  refine ⟨_, rfl, _, a7, .inr ⟨(by decide : (11 : Int) ≠ 0), rfl, St.dropRow s8 (.cons _ (.refl _))⟩⟩
  refine gH ?_
  refine dy ?_
  refine wn e4 ?_
  refine aF ?_
  refine aH ?_
  refine k9 _ _ ?_
  refine sk fun dd l6 => ?_
  refine aC ?_
  refine aR e0 rfl (fn1 (gM _ _)) (dG _ _ _ r.name (e0).sat (h0.mono a7) (by omega)) ?_
  intro dg dh dj s9 e5 q7
  obtain ⟨d0, d1, rfl, _⟩ := q7.shape
  refine dx ?_
  refine dr (.agg #[(.slice d0 r.name.length d1), (.slice j8 (hJ ([] : List Pr) r.key).length e1)]) (aK (fD rfl rfl) (by kernel_rfl)) ?_
  simp only [pq]
  refine bH s9 (v := fun n => .slice (aA n 0) 1 1) rfl (cN (ps := #[(0, (.agg #[(.slice d0 r.name.length d1), (.slice j8 (hJ ([] : List Pr) r.key).length e1)]))]) (cells := #[(.slice d0 r.name.length d1), (.slice j8 (hJ ([] : List Pr) r.key).length e1)]) (E := 66) (cZ rfl) (fun w => by kernel_rfl)) (fun t0 dk t1 => ?_)
  refine xR (L := (⟨n2, [(.slice x0 r.name.length y0), (.slice x1 r.key.length y1), (.bool r.gone), (.slice x3 r.value.length y3)], 39⟩ :: L0)) (M := fun v_ => (cU 2 TnC TnC.mono 66 w0.heap.size v_ (l.take (aT l r.name) ++ (r.name, (hJ ([] : List Pr) r.key)) :: l.drop (aT l r.name)) :: M0)) rfl (cB (vs := #[(.slice a l.length c), (nI (aT l r.name)), (.slice (aA t0 0) 1 1)]) (JA rfl rfl rfl) rfl (YR _ _)) (yF (p := (r.name, (hJ ([] : List Pr) r.key))) TnC.one t1 rfl ⟨_, _, rfl, q7, (j7.mono e5)⟩ (by omega) hpl) ?_
  intro dm dq t2
  simp only [pq]
  iterate 2 refine dy ?_
  refine wn l6 ?_
  refine aO ?_
  try simp only [xt]
  refine bR (cI rfl (gD rfl) (gD rfl)) ?_
  skip
  have hw0 : wrE r = 0 := by unfold wrE; rw [zZa (by omega), zZb hgone, zZa (by omega), zZa (by omega)]
  have hwf := hH hO (oF hgone)
  rw [zZa (fun h => by rw [hgone] at h; simp at h)] at hwf
  rw [zZa (vD a3), zZa (by rw [jP, zZa (by rw [hh]; simp)]; omega), MJ hh] at hwf
  have t3 := St.drop t2 (.cons _ (zZd _))
  rw [pY hw0 hwf]
  exact ⟨_, rfl, _, (a7.trans e5), .inl ⟨rfl, t3⟩⟩
  refine aB ?_
  refine aC ?_
  refine aR b5 rfl (fn2 (DV _ _)) (AH _ _ _ _ ([] : List Pr) r.key (b5).sat (Sl.nil _ _ _) h1 (TreeOk.nil 60) hk) ?_
  intro ds du dv t4 l7 t5
  obtain ⟨_, rfl, t6⟩ := t5
  obtain ⟨dw, dz, rfl, _⟩ := Sl.shape t6
  refine aC ?_
  refine wlK d9 ?_
  refine sk fun ea l8 => ?_
  refine dx ?_
  refine dr bF (dH (m := (cQ r.key.length)) (n := (0 : Int)) (b := false) rfl rfl (beq_eq_false_iff_ne.2 (hk))) ?_
  refine aC ?_
  refine wn l8 ?_
  refine aF ?_
  refine aH ?_
  refine a5 _ _ ?_
  refine aE fun eb t7 => ?_
  refine aN ?_
  refine sk fun ec l9 => ?_
  refine dx ?_
  refine dr bT (cH (m := (cQ r.key.length)) (n := (0 : Int)) (b := true) rfl rfl (bne_iff_ne.2 (hk))) ?_
  refine dy ?_
  simp only [pq]
  refine wn l9 ?_
  refine aI ?_
  refine sk fun ed m0 => ?_
  refine aC ?_
  refine wn m0 ?_
  refine aO ?_
  try simp only [xt]
  refine bodyPost_ret (v := (.tuple #[(.slice none 0 0), (.int .i64 (cQ r.key.length))])) ?_ rfl ?_
  exact cI rfl rfl rfl
  skip
  have hwe : wrE r = cQ r.key.length := by unfold wrE; rw [zZa (by omega), zZb hgone, zZb hk]
  have hne : wrE r ≠ 0 := by rw [hwe]; exact hk
  have t8 := St.drop t4 (L' := L0) (.cons _ (zZd _))
  rw [sF hne]
  refine ⟨_, by rw [hwe], _, l7, .inr ⟨hne, rfl, St.dropRow t8 (.cons _ (.refl _))⟩⟩
  by_cases hp : gA (r.key, r.value) = 0
  by_cases a6 : 60 < (fG ([] : List Pr) r.key r.value).length
  refine aB ?_
  refine aC ?_
  refine dr (.agg #[(.slice x1 r.key.length y1), (.slice x3 r.value.length y3)]) (aK (fD rfl rfl) (by kernel_rfl)) ?_
  simp only [pq]
  refine aR b5 rfl (fn2 (tW _ _)) (sG _ _ _ _ ([] : List Pr) (r.key, r.value) (b5).sat (Sl.nil _ _ _) ⟨_, _, _, _, rfl, h1, h3⟩ (TreeOk.nil 60) hb1 hb2 hp a6) ?_
  intro ee eg eh t9 m1 u0
  obtain ⟨_, rfl, u1⟩ := u0
  obtain ⟨ei, ej, rfl, ek, u2⟩ := Sl.shape u1
  unfold maxLen at u2
  refine aC ?_
  refine wlK a5 ?_
  refine aE fun el u3 => ?_
  refine aN ?_
  refine sk fun em m2 => ?_
  refine dx ?_
  refine dr bT (cH (b := true) rfl rfl (by decide)) ?_
  refine dy ?_
  simp only [pq]
  refine wn m2 ?_
  refine aI ?_
  refine sk fun en m3 => ?_
  refine aC ?_
  refine wn m3 ?_
  refine aO ?_
  try simp only [xt]
  refine bR (cI rfl (gD rfl) (gD rfl)) ?_
  skip
  have hw0 : wrE r = 0 := by unfold wrE; rw [zZa (by omega), zZa (by rw [hgone]; simp)]; exact hp
  have hwf := hH hO (mE hgone)
  rw [zZb ⟨hgone, a6⟩] at hwf
  have u4 := St.drop t9 (.cons _ (zZd _))
  rw [BZ hw0 hwf]
  refine ⟨_, rfl, _, m1, .inr ⟨(by decide : (11 : Int) ≠ 0), rfl, St.dropRow u4 (.cons _ (.refl _))⟩⟩
  refine aB ?_
  refine aC ?_
  refine dr (.agg #[(.slice x1 r.key.length y1), (.slice x3 r.value.length y3)]) (aK (fD rfl rfl) (by kernel_rfl)) ?_
  simp only [pq]
  refine aR b5 rfl (fn2 (tW _ _)) (uA _ _ _ _ ([] : List Pr) (r.key, r.value) (b5).sat (Sl.nil _ _ _) ⟨_, _, _, _, rfl, h1, h3⟩ (TreeOk.nil 60) hb1 hb2 hp a6) ?_
  intro u5 u6 u7 b6 a4 m4
  obtain ⟨_, rfl, b7⟩ := m4
  obtain ⟨b9, a8, rfl, e6, m5⟩ := Sl.shape b7
  unfold maxLen at m5
  have e6 : (fG ([] : List Pr) r.key r.value).length ≤ a8 := e6
  have b7 : Prs _ (.slice b9 (fG ([] : List Pr) r.key r.value).length a8) (fG ([] : List Pr) r.key r.value) := b7
  refine aC ?_
  refine wlK a5 ?_
  refine aE fun u8 e7 => ?_
  refine aN ?_
  refine sk fun u9 e8 => ?_
  refine dx ?_
  refine dr bF (cH (b := false) rfl rfl (by decide)) ?_
  refine dy ?_
  simp only [pq]
  refine wn e8 ?_
  refine aF ?_
  refine sk fun v0 e9 => ?_
  refine aC ?_
  refine wn e9 ?_
  refine aF ?_
  refine sk fun v1 f0 => ?_
  refine aC ?_
  refine wn f0 ?_
  refine aF ?_
  refine sk fun v2 c2 => ?_
  refine aC ?_
  by_cases a3 : (fG ([] : List Pr) r.key r.value).length = 0
  refine iA ?_
  refine dy ?_
  refine wn c2 ?_
  refine aI ?_
  refine sk fun v3 f1 => ?_
  refine aC ?_
  refine wn f1 ?_
  refine aO ?_
  try simp only [xt]
  refine bR (cI rfl (gD rfl) (gD rfl)) ?_
  skip
  have hw0 : wrE r = 0 := by unfold wrE; rw [zZa (by omega), zZa (by rw [hgone]; simp)]; exact hp
  have hwf := hH hO (mE hgone)
  rw [zZa (fun h => a6 h.2)] at hwf
  rw [zZb (CA a3), ML hh] at hwf
  have m6 := St.drop b6 (.cons _ (zZd _))
  rw [pY hw0 hwf]
  exact ⟨_, rfl, _, a4, .inl ⟨rfl, m6⟩⟩
  refine gH ?_
  refine dy ?_
  refine wn c2 ?_
  refine aF ?_
  refine sk fun v4 c3 => ?_
  refine aC ?_
  by_cases l4 : l.length = 8
  refine iA ?_
  refine dy ?_
  refine wn c3 ?_
  refine aI ?_
  refine sk fun v5 f2 => ?_
  refine aC ?_
  refine wn f2 ?_
  refine aO ?_
  try simp only [xt]
  refine bR (cI rfl (gD rfl) (gD rfl)) ?_
  skip
  have hw0 : wrE r = 0 := by unfold wrE; rw [zZa (by omega), zZa (by rw [hgone]; simp)]; exact hp
  have hwf := hH hO (mE hgone)
  rw [zZa (fun h => a6 h.2)] at hwf
  rw [zZa (vD a3), zZb (by rw [jP, zZa (by rw [hh]; simp)]; omega)] at hwf
  have m7 := St.drop b6 (.cons _ (zZd _))
  rw [BZ hw0 hwf]
  refine ⟨_, rfl, _, a4, .inr ⟨(by decide : (11 : Int) ≠ 0), rfl, St.dropRow m7 (.cons _ (.refl _))⟩⟩
  refine gH ?_
  refine dy ?_
  refine wn c3 ?_
  refine aF ?_
  refine aH ?_
  refine e7 _ _ ?_
  refine sk fun v6 f3 => ?_
  refine aC ?_
  refine aR b6 rfl (fn1 (gM _ _)) (dG _ _ _ r.name (b6).sat (h0.mono a4) (by omega)) ?_
  intro v7 v8 v9 m8 c4 f4
  obtain ⟨a9, b0, rfl, _⟩ := f4.shape
  refine dx ?_
  refine dr (.agg #[(.slice a9 r.name.length b0), (.slice b9 (fG ([] : List Pr) r.key r.value).length a8)]) (aK (fD rfl rfl) (by kernel_rfl)) ?_
  simp only [pq]
  refine bH m8 (v := fun n => .slice (aA n 0) 1 1) rfl (cN (ps := #[(0, (.agg #[(.slice a9 r.name.length b0), (.slice b9 (fG ([] : List Pr) r.key r.value).length a8)]))]) (cells := #[(.slice a9 r.name.length b0), (.slice b9 (fG ([] : List Pr) r.key r.value).length a8)]) (E := 66) (cZ rfl) (fun w => by kernel_rfl)) (fun m9 w1 n0 => ?_)
  refine xR (L := (⟨n2, [(.slice x0 r.name.length y0), (.slice x1 r.key.length y1), (.bool r.gone), (.slice x3 r.value.length y3)], 39⟩ :: L0)) (M := fun v_ => (cU 2 TnC TnC.mono 66 w0.heap.size v_ (l.take (aT l r.name) ++ (r.name, (fG ([] : List Pr) r.key r.value)) :: l.drop (aT l r.name)) :: M0)) rfl (cB (vs := #[(.slice a l.length c), (nI (aT l r.name)), (.slice (aA m9 0) 1 1)]) (JA rfl rfl rfl) rfl (YR _ _)) (yF (p := (r.name, (fG ([] : List Pr) r.key r.value))) TnC.one n0 rfl ⟨_, _, rfl, f4, (b7.mono c4)⟩ (by omega) hpl) ?_
  intro w2 w4 n1
  simp only [pq]
  iterate 2 refine dy ?_
  refine wn f3 ?_
  refine aO ?_
  try simp only [xt]
  refine bR (cI rfl (gD rfl) (gD rfl)) ?_
  skip
  have hw0 : wrE r = 0 := by unfold wrE; rw [zZa (by omega), zZa (by rw [hgone]; simp)]; exact hp
  have hwf := hH hO (mE hgone)
  rw [zZa (fun h => a6 h.2)] at hwf
  rw [zZa (vD a3), zZa (by rw [jP, zZa (by rw [hh]; simp)]; omega), MJ hh] at hwf
  have n3 := St.drop n1 (.cons _ (zZd _))
  rw [pY hw0 hwf]
  exact ⟨_, rfl, _, (a4.trans c4), .inl ⟨rfl, n3⟩⟩
  refine aB ?_
  refine aC ?_
  refine dr (.agg #[(.slice x1 r.key.length y1), (.slice x3 r.value.length y3)]) (aK (fD rfl rfl) (by kernel_rfl)) ?_
  simp only [pq]
  refine aR b5 rfl (fn2 (tW _ _)) (AI _ _ _ _ ([] : List Pr) (r.key, r.value) (b5).sat (Sl.nil _ _ _) ⟨_, _, _, _, rfl, h1, h3⟩ (TreeOk.nil 60) hb1 hb2 hp) ?_
  intro w5 w6 w8 n4 f5 n5
  obtain ⟨_, rfl, n6⟩ := n5
  obtain ⟨w9, x2, rfl, _⟩ := Sl.shape n6
  refine aC ?_
  refine wlK a5 ?_
  refine aE fun x4 q8 => ?_
  refine aN ?_
  refine sk fun x5 f6 => ?_
  refine dx ?_
  refine dr bT (cH (m := (gA (r.key, r.value))) (n := (0 : Int)) (b := true) rfl rfl (bne_iff_ne.2 (hp))) ?_
  refine dy ?_
  simp only [pq]
  refine wn f6 ?_
  refine aI ?_
  refine sk fun x6 f7 => ?_
  refine aC ?_
  refine wn f7 ?_
  refine aO ?_
  try simp only [xt]
  refine bodyPost_ret (v := (.tuple #[(.slice none 0 0), (.int .i64 (gA (r.key, r.value)))])) ?_ rfl ?_
  exact cI rfl rfl rfl
  skip
  have hwe : wrE r = gA (r.key, r.value) := by unfold wrE; rw [zZa (by omega), zZa (by rw [hgone]; simp)]
  have hne : wrE r ≠ 0 := by rw [hwe]; exact hp
  have n7 := St.drop n4 (L' := L0) (.cons _ (zZd _))
  rw [sF hne]
  refine ⟨_, by rw [hwe], _, f5, .inr ⟨hne, rfl, St.dropRow n7 (.cons _ (.refl _))⟩⟩
 | true =>
  have hpos := MH ok.rise hh
  obtain ⟨t, ht⟩ : ∃ t, l[aT l r.name]? = some t := ⟨l[aT l r.name], zZc hpos⟩
  have hO := HN ok.rise hh ht
  have htn : t.1 = r.name := by obtain ⟨_, h2⟩ := (iP ok.rise).1 hh; obtain ⟨_, rfl⟩ := List.getElem?_eq_some_iff.1 ht; exact h2
  obtain ⟨b1, rfl⟩ := Own.addr0 (S8.own (i := 0) rfl) (by omega)
  refine aB ?_
  refine aC ?_
  obtain ⟨x7, f8, f9, d2⟩ := oR S8 (i := 0) rfl
  refine aJ (v := (.tuple #[(nI (aT l r.name)), bT])) S8 rfl (fn2 (QD _ _)) (TR f8 d2 (h0.mono f9) ok.rise (by omega) hh) (fun x8 a0 => ?_)
  refine aC ?_
  refine wlK d7 ?_
  refine sk fun x9 g0 => ?_
  refine aC ?_
  refine wn g0 ?_
  refine aE fun y2 g1 => ?_
  refine sk fun y4 g2 => ?_
  refine dx ?_
  refine wn g2 ?_
  refine aI ?_
  obtain ⟨y5, a2, q9, r0, r1, r2, y6, n8, y7, b2⟩ := Ip (a0.own (i := 0) rfl) ht
  injection a2 with a2; injection a2 with a2; subst a2
  refine aB ?_
  iterate 2 refine dx ?_
  refine dr (pP b1 (0 + (aT l r.name) * 2)) (bN (i := (aT l r.name)) (sz := 2) Tryz.underlying24 (cJ _) rfl rfl rfl (hpos) rfl) ?_
  simp only [pq]
  refine df (nZ _ _) ?_
  refine dr _ (aD rfl (aQ (uW _) n8)) ?_
  refine dy ?_
  simp only [pq]
  refine wlK g1 ?_
  refine sk fun y8 g3 => ?_
  refine dy ?_
  refine wn g3 ?_
  refine aE fun y9 a1 => ?_
  refine sk fun z0 g4 => ?_
  refine aC ?_
  refine wn g4 ?_
  refine wp_cond_split rfl (fun hgone => ?_) (fun hgone => ?_)
  refine aE fun z1 c5 => ?_
  by_cases hk : cQ r.key.length = 0
  refine aB ?_
  refine aC ?_
  refine aR a0 rfl (fn2 (DV _ _)) (wM _ _ _ _ t.2 r.key (a0).sat b2 h1 (show TreeOk 60 t.2 from ok.tree t (zZi ht)) (iX.1 hk)) ?_
  intro z2 z3 z4 d3 b3 n9
  obtain ⟨_, rfl, c0⟩ := n9
  obtain ⟨g5, d4, rfl, g6, o0⟩ := Sl.shape c0
  unfold maxLen at o0
  have g6 : (hJ t.2 r.key).length ≤ d4 := g6
  have c0 : Prs _ (.slice g5 (hJ t.2 r.key).length d4) (hJ t.2 r.key) := c0
  refine aC ?_
  refine wlK c5 ?_
  refine sk fun z5 c6 => ?_
  refine dx ?_
  refine dr bT (dH (b := true) rfl rfl (by decide)) ?_
  refine aC ?_
  by_cases k6 : 0 < r.value.length
  refine qX ?_
  refine dp ?_
  refine wn c6 ?_
  refine aI ?_
  refine aB ?_
  refine dy ?_
  simp only [pq]
  refine wlK a1 ?_
  refine aE fun z6 r3 => ?_
  refine aN ?_
  refine sk fun z7 g7 => ?_
  refine dx ?_
  refine dr bT (cH (b := true) rfl rfl (by decide)) ?_
  refine dy ?_
  simp only [pq]
  refine wn g7 ?_
  refine aI ?_
  refine sk fun z8 g8 => ?_
  refine aC ?_
  refine wn g8 ?_
  refine aO ?_
  try simp only [xt]
  refine bR (cI rfl (gD rfl) (gD rfl)) ?_
  skip
  have hwe : wrE r = 4 := by unfold wrE; rw [zZa (by omega), zZb hgone, zZa (by omega), zZb (by omega)]
  have hne : wrE r ≠ 0 := by rw [hwe]; decide
  have o1 := St.drop d3 (.cons _ (zZd _))
  rw [sF hne]
  refine ⟨_, by rw [hwe], _, b3, .inr ⟨hne, rfl, St.dropRow o1 (.cons _ (.refl _))⟩⟩
  refine lS ?_
  refine dp ?_
  refine wn c6 ?_
  refine aF ?_
  refine aH ?_
  refine a1 _ _ ?_
  refine aE fun z9 r4 => ?_
  refine aN ?_
  refine sk fun aa g9 => ?_
  refine dx ?_
  refine dr bF (cH (b := false) rfl rfl (by decide)) ?_
  refine dy ?_
  simp only [pq]
  refine wn g9 ?_
  refine aF ?_
  refine sk fun ab c7 => ?_
  refine aC ?_
  by_cases b4 : (hJ t.2 r.key).length = 0
  refine iA ?_
  refine aC ?_
  refine wn c7 ?_
  refine aI ?_
  refine sk fun ac h4 => ?_
  refine aC ?_
  refine cR ((aT l r.name) + 1) ?_
  refine xR (L := (⟨n2, [(.slice x0 r.name.length y0), (.slice x1 r.key.length y1), (.bool r.gone), (.slice x3 r.value.length y3)], 39⟩ :: L0)) (M := fun v_ => (cU 2 TnC TnC.mono 66 w0.heap.size v_ (l.take (aT l r.name) ++ l.drop ((aT l r.name) + 1)) :: M0)) rfl (cB (vs := #[(.slice (aA b1 0) l.length c), (nI (aT l r.name)), (nI ((aT l r.name) + 1))]) (JA rfl rfl rfl) rfl (YQ _ _)) (yG TnC.one d3 (by omega) hpos) ?_
  intro ad ae o2
  refine aC ?_
  refine wn h4 ?_
  refine aO ?_
  try simp only [xt]
  refine bR (cI rfl (gD rfl) (gD rfl)) ?_
  skip
  have hw0 : wrE r = 0 := by unfold wrE; rw [zZa (by omega), zZb hgone, zZa (by omega), zZa (by omega)]
  have hwf := hH hO (oF hgone)
  rw [zZa (fun h => by rw [hgone] at h; simp at h)] at hwf
  rw [zZb (CA b4), MK hh] at hwf
  have o3 := St.drop o2 (.cons _ (zZd _))
  rw [pY hw0 hwf]
  exact ⟨_, rfl, _, b3, .inl ⟨rfl, o3⟩⟩
  refine gH ?_
  refine aC ?_
  refine wn c7 ?_
  refine aF ?_
  refine sk fun af h5 => ?_
  refine aC ?_
  refine wn h5 ?_
  refine aI ?_
  refine sk fun ag h6 => ?_
  refine aC ?_
  refine dr (pP b1 (0 + (aT l r.name) * 2)) (bN (i := (aT l r.name)) (sz := 2) Tryz.underlying24 (cJ _) rfl rfl rfl (hpos) rfl) ?_
  refine df (nZ _ _) ?_
  refine HK (r := 0) (i := (aT l r.name)) (j := 1) (p := (r.name, (hJ t.2 r.key))) (u := (.slice g5 (hJ t.2 r.key).length d4)) d3 rfl rfl (by omega) (by decide) rfl rfl (by omega) (JD) rfl rfl (fun cs q hq hR => ?_) (zZe _) (fun ah o4 => ?_)
  obtain ⟨x, y, rfl, hx, hy⟩ := hR
  obtain rfl : q = t := by rw [hq] at ht; exact Option.some.inj ht
  exact ⟨_, _, rfl, by rw [← htn]; exact hx, c0⟩
  refine wn h6 ?_
  refine sk fun ai h7 => ?_
  refine aC ?_
  refine wn h7 ?_
  refine aO ?_
  try simp only [xt]
  refine bR (cI rfl (gD rfl) (gD rfl)) ?_
  skip
  have hw0 : wrE r = 0 := by unfold wrE; rw [zZa (by omega), zZb hgone, zZa (by omega), zZa (by omega)]
  have hwf := hH hO (oF hgone)
  rw [zZa (fun h => by rw [hgone] at h; simp at h)] at hwf
  rw [zZa (vD b4), zZa (by rw [jP, zZb hh]; omega), MI ok.rise hh] at hwf
  have o5 := St.drop o4 (.cons _ (zZd _))
  rw [pY hw0 hwf]
  exact ⟨_, rfl, _, b3, .inl ⟨rfl, o5⟩⟩
  refine aB ?_
  refine aC ?_
  refine aR a0 rfl (fn2 (DV _ _)) (AH _ _ _ _ t.2 r.key (a0).sat b2 h1 (show TreeOk 60 t.2 from ok.tree t (zZi ht)) hk) ?_
  intro aj ak al o6 h8 o7
  obtain ⟨_, rfl, o8⟩ := o7
  obtain ⟨am, an, rfl, _⟩ := Sl.shape o8
  refine aC ?_
  refine wlK c5 ?_
  refine sk fun ao h9 => ?_
  refine dx ?_
  refine dr bF (dH (m := (cQ r.key.length)) (n := (0 : Int)) (b := false) rfl rfl (beq_eq_false_iff_ne.2 (hk))) ?_
  refine aC ?_
  refine wn h9 ?_
  refine aF ?_
  refine aH ?_
  refine a1 _ _ ?_
  refine aE fun ap r5 => ?_
  refine aN ?_
  refine sk fun aq i0 => ?_
  refine dx ?_
  refine dr bT (cH (m := (cQ r.key.length)) (n := (0 : Int)) (b := true) rfl rfl (bne_iff_ne.2 (hk))) ?_
  refine dy ?_
  simp only [pq]
  refine wn i0 ?_
  refine aI ?_
  refine sk fun ar i1 => ?_
  refine aC ?_
  refine wn i1 ?_
  refine aO ?_
  try simp only [xt]
  refine bodyPost_ret (v := (.tuple #[(.slice none 0 0), (.int .i64 (cQ r.key.length))])) ?_ rfl ?_
  exact cI rfl rfl rfl
  skip
  have hwe : wrE r = cQ r.key.length := by unfold wrE; rw [zZa (by omega), zZb hgone, zZb hk]
  have hne : wrE r ≠ 0 := by rw [hwe]; exact hk
  have o9 := St.drop o6 (L' := L0) (.cons _ (zZd _))
  rw [sF hne]
  refine ⟨_, by rw [hwe], _, h8, .inr ⟨hne, rfl, St.dropRow o9 (.cons _ (.refl _))⟩⟩
  by_cases hp : gA (r.key, r.value) = 0
  by_cases a6 : 60 < (fG t.2 r.key r.value).length
  refine aB ?_
  refine aC ?_
  refine dr (.agg #[(.slice x1 r.key.length y1), (.slice x3 r.value.length y3)]) (aK (fD rfl rfl) (by kernel_rfl)) ?_
  simp only [pq]
  refine aR a0 rfl (fn2 (tW _ _)) (sG _ _ _ _ t.2 (r.key, r.value) (a0).sat b2 ⟨_, _, _, _, rfl, h1, h3⟩ (show TreeOk 60 t.2 from ok.tree t (zZi ht)) hb1 hb2 hp a6) ?_
  intro au av aw p0 i2 p1
  obtain ⟨_, rfl, p2⟩ := p1
  obtain ⟨ax, ay, rfl, az, p3⟩ := Sl.shape p2
  unfold maxLen at p3
  refine aC ?_
  refine wlK a1 ?_
  refine aE fun ba r6 => ?_
  refine aN ?_
  refine sk fun bb i3 => ?_
  refine dx ?_
  refine dr bT (cH (b := true) rfl rfl (by decide)) ?_
  refine dy ?_
  simp only [pq]
  refine wn i3 ?_
  refine aI ?_
  refine sk fun bc i4 => ?_
  refine aC ?_
  refine wn i4 ?_
  refine aO ?_
  try simp only [xt]
  refine bR (cI rfl (gD rfl) (gD rfl)) ?_
  skip
  have hw0 : wrE r = 0 := by unfold wrE; rw [zZa (by omega), zZa (by rw [hgone]; simp)]; exact hp
  have hwf := hH hO (mE hgone)
  rw [zZb ⟨hgone, a6⟩] at hwf
  have p4 := St.drop p0 (.cons _ (zZd _))
  rw [BZ hw0 hwf]
  refine ⟨_, rfl, _, i2, .inr ⟨(by decide : (11 : Int) ≠ 0), rfl, St.dropRow p4 (.cons _ (.refl _))⟩⟩
  refine aB ?_
  refine aC ?_
  refine dr (.agg #[(.slice x1 r.key.length y1), (.slice x3 r.value.length y3)]) (aK (fD rfl rfl) (by kernel_rfl)) ?_
  simp only [pq]
  refine aR a0 rfl (fn2 (tW _ _)) (uA _ _ _ _ t.2 (r.key, r.value) (a0).sat b2 ⟨_, _, _, _, rfl, h1, h3⟩ (show TreeOk 60 t.2 from ok.tree t (zZi ht)) hb1 hb2 hp a6) ?_
  intro bd be bf i5 c8 p5
  obtain ⟨_, rfl, c1⟩ := p5
  obtain ⟨i6, d5, rfl, i7, p6⟩ := Sl.shape c1
  unfold maxLen at p6
  have i7 : (fG t.2 r.key r.value).length ≤ d5 := i7
  have c1 : Prs _ (.slice i6 (fG t.2 r.key r.value).length d5) (fG t.2 r.key r.value) := c1
  refine aC ?_
  refine wlK a1 ?_
  refine aE fun bg r7 => ?_
  refine aN ?_
  refine sk fun bh i8 => ?_
  refine dx ?_
  refine dr bF (cH (b := false) rfl rfl (by decide)) ?_
  refine dy ?_
  simp only [pq]
  refine wn i8 ?_
  refine aF ?_
  refine sk fun bi c9 => ?_
  refine aC ?_
  by_cases b4 : (fG t.2 r.key r.value).length = 0
  refine iA ?_
  refine aC ?_
  refine wn c9 ?_
  refine aI ?_
  refine sk fun bj i9 => ?_
  refine aC ?_
  refine cR ((aT l r.name) + 1) ?_
  refine xR (L := (⟨n2, [(.slice x0 r.name.length y0), (.slice x1 r.key.length y1), (.bool r.gone), (.slice x3 r.value.length y3)], 39⟩ :: L0)) (M := fun v_ => (cU 2 TnC TnC.mono 66 w0.heap.size v_ (l.take (aT l r.name) ++ l.drop ((aT l r.name) + 1)) :: M0)) rfl (cB (vs := #[(.slice (aA b1 0) l.length c), (nI (aT l r.name)), (nI ((aT l r.name) + 1))]) (JA rfl rfl rfl) rfl (YQ _ _)) (yG TnC.one i5 (by omega) hpos) ?_
  intro bk bl p7
  refine aC ?_
  refine wn i9 ?_
  refine aO ?_
  try simp only [xt]
  refine bR (cI rfl (gD rfl) (gD rfl)) ?_
  skip
  have hw0 : wrE r = 0 := by unfold wrE; rw [zZa (by omega), zZa (by rw [hgone]; simp)]; exact hp
  have hwf := hH hO (mE hgone)
  rw [zZa (fun h => a6 h.2)] at hwf
  rw [zZb (CA b4), MK hh] at hwf
  have p8 := St.drop p7 (.cons _ (zZd _))
  rw [pY hw0 hwf]
  exact ⟨_, rfl, _, c8, .inl ⟨rfl, p8⟩⟩
  refine gH ?_
  refine aC ?_
  refine wn c9 ?_
  refine aF ?_
  refine sk fun bm j0 => ?_
  refine aC ?_
  refine wn j0 ?_
  refine aI ?_
  refine sk fun bn j1 => ?_
  refine aC ?_
  refine dr (pP b1 (0 + (aT l r.name) * 2)) (bN (i := (aT l r.name)) (sz := 2) Tryz.underlying24 (cJ _) rfl rfl rfl (hpos) rfl) ?_
  refine df (nZ _ _) ?_
  refine HK (r := 0) (i := (aT l r.name)) (j := 1) (p := (r.name, (fG t.2 r.key r.value))) (u := (.slice i6 (fG t.2 r.key r.value).length d5)) i5 rfl rfl (by omega) (by decide) rfl rfl (by omega) (JD) rfl rfl (fun cs q hq hR => ?_) (zZe _) (fun bo p9 => ?_)
  obtain ⟨x, y, rfl, hx, hy⟩ := hR
  obtain rfl : q = t := by rw [hq] at ht; exact Option.some.inj ht
  exact ⟨_, _, rfl, by rw [← htn]; exact hx, c1⟩
  refine wn j1 ?_
  refine sk fun bp j2 => ?_
  refine aC ?_
  refine wn j2 ?_
  refine aO ?_
  try simp only [xt]
  refine bR (cI rfl (gD rfl) (gD rfl)) ?_
  skip
  have hw0 : wrE r = 0 := by unfold wrE; rw [zZa (by omega), zZa (by rw [hgone]; simp)]; exact hp
  have hwf := hH hO (mE hgone)
  rw [zZa (fun h => a6 h.2)] at hwf
  rw [zZa (vD b4), zZa (by rw [jP, zZb hh]; omega), MI ok.rise hh] at hwf
  have q0 := St.drop p9 (.cons _ (zZd _))
  rw [pY hw0 hwf]
  exact ⟨_, rfl, _, c8, .inl ⟨rfl, q0⟩⟩
  refine aB ?_
  refine aC ?_
  refine dr (.agg #[(.slice x1 r.key.length y1), (.slice x3 r.value.length y3)]) (aK (fD rfl rfl) (by kernel_rfl)) ?_
  simp only [pq]
  refine aR a0 rfl (fn2 (tW _ _)) (AI _ _ _ _ t.2 (r.key, r.value) (a0).sat b2 ⟨_, _, _, _, rfl, h1, h3⟩ (show TreeOk 60 t.2 from ok.tree t (zZi ht)) hb1 hb2 hp) ?_
  intro bq br bs q1 j3 q2
  obtain ⟨_, rfl, q3⟩ := q2
  obtain ⟨bt, bu, rfl, _⟩ := Sl.shape q3
  refine aC ?_
  refine wlK a1 ?_
  refine aE fun bw r8 => ?_
  refine aN ?_
  refine sk fun bx j4 => ?_
  refine dx ?_
  refine dr bT (cH (m := (gA (r.key, r.value))) (n := (0 : Int)) (b := true) rfl rfl (bne_iff_ne.2 (hp))) ?_
  refine dy ?_
  simp only [pq]
  refine wn j4 ?_
  refine aI ?_
  refine sk fun bz j5 => ?_
  refine aC ?_
  refine wn j5 ?_
  refine aO ?_
  try simp only [xt]
  refine bodyPost_ret (v := (.tuple #[(.slice none 0 0), (.int .i64 (gA (r.key, r.value)))])) ?_ rfl ?_
  exact cI rfl rfl rfl
  skip
  have hwe : wrE r = gA (r.key, r.value) := by unfold wrE; rw [zZa (by omega), zZa (by rw [hgone]; simp)]
  have hne : wrE r ≠ 0 := by rw [hwe]; exact hp
  have q4 := St.drop q1 (L' := L0) (.cons _ (zZd _))
  rw [sF hne]
  refine ⟨_, by rw [hwe], _, j3, .inr ⟨hne, rfl, St.dropRow q4 (.cons _ (.refl _))⟩⟩
 refine mQ ?_
 refine wn hK9 ?_
 refine aI ?_
 refine sk fun ca j6 => ?_
 refine aC ?_
 refine wn j6 ?_
 refine aO ?_
 try simp only [xt]
 refine bR (cI rfl (gD rfl) (gD rfl)) ?_
 skip
 have hwe : wrE r = iL r.name.length := by unfold wrE; rw [zZb d6]
 have hne : wrE r ≠ 0 := by rw [hwe]; exact d6
 have q5 := St.drop S8 (.cons _ (zZd _))
 rw [sF hne]
 refine ⟨_, by rw [hwe], _, (Le.refl _), .inr ⟨hne, rfl, St.dropRow q5 (.cons _ (.refl _))⟩⟩
def ZB (r : aW) (e : Int) (F : Fz) (u : Value) : Prop := ∃ x, u = .tuple #[x, .int .i64 e] ∧ Tns F x r
theorem lN (f : aW) (x : Wr) (ws : List Wr) : dW f (x :: ws) = if wrE x ≠ 0 then (wrE x, []) else match gF f x with | none => (11, []) | some g => dW g ws := rfl
theorem nG : ∀ {ws : List Wr} {f : aW} {w : Wr}, (dW f ws).1 = 0 → dW f (ws ++ [w]) = dW (dW f ws).2 [w]
  | [], f, w, _ => rfl
  | x :: ws, f, w, h => by
    rw [lN] at h
    rw [List.cons_append, lN f x (ws ++ [w]), lN f x ws]
    by_cases hx : wrE x ≠ 0
    · rw [zZb hx] at h; exact absurd h hx
    · rw [zZa hx] at h
      rw [zZa hx, zZa hx]
      cases hw : gF f x with
      | none => rw [hw] at h; simp at h
      | some g =>
        rw [hw] at h
        simp only at h ⊢
        exact nG h
theorem AJ : ∀ {ws us : List Wr} {f : aW}, (dW f ws).1 ≠ 0 → dW f (ws ++ us) = dW f ws
  | [], us, f, h => by simp [dW] at h
  | x :: ws, us, f, h => by
    rw [lN] at h
    rw [List.cons_append, lN f x (ws ++ us), lN f x ws]
    by_cases hx : wrE x ≠ 0
    · rw [zZb hx, zZb hx]
    · rw [zZa hx] at h
      rw [zZa hx, zZa hx]
      cases hw : gF f x with
      | none => rfl
      | some g =>
        rw [hw] at h
        simp only at h ⊢
        exact AJ h
theorem uB : ∀ {ws : List Wr} {f : aW}, ForestOk 60 f → (dW f ws).1 = 0 → ForestOk 60 (dW f ws).2
  | [], f, hf, _ => hf
  | x :: ws, f, hf, h => by
    unfold dW at h ⊢
    by_cases hx : wrE x ≠ 0
    · rw [zZb hx] at h; exact absurd h hx
    · rw [zZa hx] at h ⊢
      cases hw : gF f x with
      | none => rw [hw] at h; simp at h
      | some g =>
        rw [hw] at h
        simp only at h ⊢
        exact uB (MG hf (oY.1 (Classical.not_not.1 hx)) hw) h
def gV (f : aW) (ws : List Wr) : Int × aW := if 10 < ws.length then (1, []) else dW f ws
theorem TS : ∀ {ws : List Wr} {f : aW}, (dW f ws).1 ≠ 0 → (dW f ws).2 = []
  | [], f, h => by simp [dW] at h
  | x :: ws, f, h => by
    unfold dW at h ⊢
    by_cases hx : wrE x ≠ 0
    · rw [zZb hx]
    · rw [zZa hx] at h ⊢
      cases hw : gF f x with
      | none => rfl
      | some g => rw [hw] at h; exact TS h
theorem wN (F : Fz) (w : World) (v u : Value) (l : aW) (ws : List Wr) (hs : Sat w F) (hv : Tns F v l) (hw : Wrs F u ws) (ok1 : ForestOk 60 l) (hb : ∀ r ∈ ws, r.name.length ≤ 100000 ∧ r.key.length ≤ 100000 ∧ r.value.length ≤ 100000) :
    Calls Tryz.prog 22 #[v, u] w (dF w F (ZB (gV l ws).2 (gV l ws).1)) := by
 have ok := oZ.2 ok1
 have hl8 := ok1.len
 obtain ⟨a, c, rfl, hc1, hc2⟩ := Sl.shape hv
 obtain ⟨a2, c2, rfl, hc3, hc4⟩ := Sl.shape hw
 unfold maxLen at hc2 hc4
 obtain ⟨g0, d1, d2, d3, d4⟩ := info_parts uY
 have S := St.start hs
 go_enter Tryz.func22, Tryz.ntmps22
 refine sk fun K1 hK1 => ?_
 iterate 2 refine dy ?_
 refine wn hK1 ?_
 refine aE fun K2 hK2 => ?_
 refine sk fun K3 hK3 => ?_
 refine dx ?_
 simp only [pq]
 refine aJ (v := (.int .i64 (fU l))) S rfl (fn1 (JV _ _)) (kE _ _ _ l (S).sat hv) (fun w4 S5 => ?_)
 refine dy ?_
 refine wn hK3 ?_
 refine sk fun K6 hK6 => ?_
 refine dx ?_
 refine dr bF (cH (m := (fU l)) (n := (0 : Int)) (b := false) rfl rfl (bne_eq_false_iff_eq.2 (ok))) ?_
 simp only [pq]
 refine wn hK6 ?_
 refine aF ?_
 refine aH ?_
 refine hK2 _ _ ?_
 refine aE fun K7 hK7 => ?_
 refine sk fun K8 hK8 => ?_
 refine aC ?_
 by_cases d5 : 10 < ws.length
 refine qX ?_
 refine wn hK8 ?_
 refine aI ?_
 refine sk fun K9 hK9 => ?_
 refine aC ?_
 refine wn hK9 ?_
 refine aO ?_
 try simp only [xt]
 refine bR (cI rfl (gD rfl) (gD rfl)) ?_
 have hall : gV l ws = (1, []) := by unfold gV; rw [zZb (by omega)]
 rw [hall]
 exact ⟨_, _, rfl, S5.gr, _, rfl, Sl.nil _ _ _⟩
 refine lS ?_
 refine wn hK8 ?_
 refine aF ?_
 refine aH ?_
 refine hK7 _ _ ?_
 refine sk fun g1 a9 => ?_
 refine dx ?_
 refine kR TnC.mono S5 rfl (fn1 (Gs _ _)) (VK _ _ _ l (S5).sat hv (by omega) (fun t ht => ok1.small ht)) ?_
 intro c8 g2 c9 d6 b0
 refine dy ?_
 simp only [pq]
 refine wn a9 ?_
 refine aE fun g3 b1 => ?_
 refine sk fun g4 b2 => ?_
 refine aC ?_
 refine wn b2 ?_
 refine aN ?_
 refine aX (fun mm aa d7 => ∃ (k : Nat) (v : Value) (b3 : Fz) (a3 : Nat → Value), mm = ws.length - k ∧ a3 = dX aa ∧ aa = ⟨([(.slice a l.length c), (.slice a2 ws.length c2), undef, undef, (a3 4), (a3 5), (.int .i64 (fU l)), v, undef] ++ (usF a3 9 3 ([(.slice a l.length c), (.int .i64 (fU l)), (.int .i64 (fU l)), bF, undef, (.slice a2 ws.length c2), (nI ws.length), bF, (.slice a l.length c), c8, (.slice a2 ws.length c2), (nI ws.length), (nI k)] ++ (usF a3 25 14 [undef])))).toArray, []⟩ ∧ St w F d7 b3 [] [cU 2 TnC TnC.mono 66 w.heap.size v ((dW l (ws.take k)).2)] ∧ Le c9 b3 ∧ (k ≤ ws.length) ∧ ((dW l (ws.take k)).1 = 0)) _ ⟨0, c8, c9, _, rfl, rfl, rfl, d6, Le.refl _, (by omega), rfl⟩ ?_
 rintro g5 g6 g7 ⟨k, v, b3, a3, rfl, -, hfr, a4, a5, hk, hz⟩ g8 b4
 simp only [uzF, Nat.reduceAdd] at hfr; subst hfr
 refine sk fun g9 a6 => ?_
 by_cases b5 : k < ws.length
 refine eS ?_
 refine wn a6 ?_
 refine aE fun h0 b6 => ?_
 refine aI ?_
 refine aH ?_
 refine b6 _ _ ?_
 refine aE fun h1 b7 => ?_
 refine aN ?_
 refine aE fun h2 b9 => ?_
 obtain ⟨p, hp⟩ : ∃ p, ws[k]? = some p := ⟨ws[k], zZc b5⟩
 obtain ⟨hb0, hb1, hb2⟩ := hb p (zZi hp)
 have okk := uB ok1 hz
 obtain ⟨d8, d9, c0, e0, e1, e2, e3, e4, e5, e6, e7, e8, e9, f0, f1, f2⟩ := Wrs.get (hw.mono (b0.trans a5)) hp
 refine aB ?_
 refine dr (pP d8 (d9 + k * 4)) (bN (i := k) (sz := 4) Tryz.underlying40 (fL _) rfl c0 rfl (by omega) rfl) ?_
 refine dr _ (aD rfl (cV Tryz.underlying39 rfl (bY) (eY (St.fz a4 e6) (St.fz a4 e7) (St.fz a4 e8) (St.fz a4 e9)))) ?_
 simp only [pq]
 refine sA a4 (kY _) fun h3 h4 f3 => ?_
 refine sW 0 f3 (bY) fun h5 d0 => ?_
 refine wlK b9 ?_
 refine sk fun h6 a7 => ?_
 refine dx ?_
 refine dR d0 0 Tryz.underlying39 (bY) ?_
 simp only [pq]
 have hwr := QO (St.drop d0 (L' := []) (.cons _ (zZd _))) (r := p) ⟨_, _, _, _, _, _, rfl, f0, f1, f2⟩ okk hb0 hb1 hb2
 refine doC rfl (fn2 (Gt _ _)) hwr ?_
 rintro e h7 ⟨f4, rfl, f5, c1, ⟨a0, a8⟩ | ⟨a0, rfl, a8⟩⟩
 refine ⟨_, rfl, ?_⟩
 rw [a0]
 have hz2 := a0
 rw [← nG hz, ← fB hp] at a8
 refine aC ?_
 refine wn a7 ?_
 refine aE fun h8 c3 => ?_
 refine sk fun h9 c4 => ?_
 refine dx ?_
 refine dr bF (cH (b := false) rfl rfl (by decide)) ?_
 simp only [pq]
 refine wn c4 ?_
 refine aF ?_
 refine aH ?_
 refine c3 _ _ ?_
 refine aB ?_
 refine aC ?_
 refine wlK b7 ?_
 refine aB ?_
 refine cR (k + 1) ?_
 refine dx ?_
 simp only [pq]
 refine aG ?_
 exact b4 _ _ _ (by omega) ⟨(k + 1), f4, f5, _, rfl, rfl, rfl, a8, (a5.trans c1), (by omega), (by rw [fB hp, nG hz]; exact hz2)⟩
 refine ⟨_, rfl, ?_⟩
 have hbad := a0
 refine aC ?_
 refine wn a7 ?_
 refine aE fun i0 f6 => ?_
 refine sk fun i1 c5 => ?_
 refine dx ?_
 refine dr bT (cH (m := (dW ((dW l (ws.take k)).2) [p]).1) (n := (0 : Int)) (b := true) rfl rfl (bne_iff_ne.2 (hbad))) ?_
 simp only [pq]
 refine wn c5 ?_
 refine aI ?_
 refine sk fun i2 c6 => ?_
 refine aC ?_
 refine wn c6 ?_
 refine aO ?_
 try simp only [xt]
 refine bR (cI rfl (gD rfl) (gD rfl)) ?_
 have hall : gV l ws = dW l (ws.take (k + 1)) := by
  unfold gV
  rw [zZa (by omega)]
  have h := AJ (us := ws.drop (k + 1)) (ws := ws.take (k + 1)) (f := l) (by rw [fB hp, nG hz]; exact hbad)
  rwa [List.take_append_drop] at h
 rw [hall, fB hp, nG hz, TS hbad]
 exact ⟨_, _, rfl, a8.gr, _, rfl, Sl.nil _ _ _⟩
 refine eM ?_
 refine wn a6 ?_
 refine aE fun i3 f7 => ?_
 refine aF ?_
 refine cP ?_
 refine b1 _ _ ?_
 refine sk fun i4 c7 => ?_
 refine aC ?_
 refine wn c7 ?_
 refine aO ?_
 try simp only [xt]
 refine bR (cI rfl (gD rfl) (gD rfl)) ?_
 have hall : gV l ws = dW l (ws.take k) := by unfold gV; rw [zZa (by omega), List.take_of_length_le (by omega)]
 rw [hall, hz]
 obtain ⟨i5, f8, f9, a1⟩ := St.freeze a4 (i := 0) rfl (zZe _)
 have a1 : Tns _ v ((dW l (ws.take k)).2) := a1
 exact ⟨_, _, rfl, f8.gr, _, rfl, a1⟩
theorem pB (F : Fz) (w : World) (v u : Value) (l : aW) (k : By) (hs : Sat w F) (hv : Tns F v l) (hu : Bs F u k) (ok1 : ForestOk 60 l) {e : Int} (he : iL k.length = e) :
    Calls Tryz.prog 38 #[v, u] w (cT w (.int .i64 e)) := by
 subst he; exact GA F w v u l k hs hv hu ok1
theorem QP {P : Program} {w0 w : World} {F0 F : Fz} {L : List Blk} {M : List RowP} {ops : Array Oper} {Q : Exit → Act → World → Prop} {a : Act} {rest : List Oper} {o : Oper} {k : FuncId} {vs : Array Value} {l : List Pr} (S : St w0 F0 w F L M) (hw : Region.wanted o (yielded ops a.tmps) = true)
    (hr : (execOp a.eval o).run P w = .ok (.enter k vs) w) (hc : Calls P k vs w fun e w' => ∃ x, e = .returned x ∧ Below w.heap.size w w' ∧ Prs F x l)
    (h : ∀ x w', St w0 F0 w' F L M → Prs F x l → WL P ops Q rest (a.put o.dst x) w') : WL P ops Q (o :: rest) a w :=
  doC hw hr hc fun e w' ⟨x, he, hb, hp⟩ => ⟨x, he, h x w' (S.tells hb) hp⟩
theorem HQ (F : Fz) (w : World) (v u z : Value) (l : aW) (n k : By) (hs : Sat w F) (hv : Tns F v l) (hn : Bs F u n) (hk : Bs F z k) (ok1 : ForestOk 60 l) (hnn : 1 ≤ n.length ∧ n.length ≤ 8) (hkk : 1 ≤ k.length ∧ k.length ≤ 16) :
    Calls Tryz.prog 29 #[v, u, z] w (dF w F (Ht (mO l n k) 0)) := by
 have hn0 := kT hnn.1 hnn.2
 have hl8 := ok1.len
 obtain ⟨a, c, rfl, hc1, hc2⟩ := Sl.shape hv
 obtain ⟨a2, c2, rfl, _⟩ := hn.shape
 obtain ⟨a3, c3, rfl, _⟩ := hk.shape
 have S := St.start hs
 go_enter Tryz.func29, Tryz.ntmps29
 refine sk fun K1 hK1 => ?_
 refine sA S (lZ _) fun n2 w3 S4 => ?_
 refine dy ?_
 refine wn hK1 ?_
 refine aE fun K5 hK5 => ?_
 refine sk fun K6 hK6 => ?_
 refine aC ?_
 refine aJ (v := (iI 0)) S4 rfl (fn2 (QA _ _)) (pB _ _ _ _ l n (S4).sat hv hn ok1 hn0) (fun w7 S8 => ?_)
 refine dy ?_
 refine wn hK6 ?_
 refine sk fun K9 hK9 => ?_
 refine dx ?_
 refine dr bF (cH (b := false) rfl rfl (by decide)) ?_
 simp only [pq]
 refine wn hK9 ?_
 refine aF ?_
 refine aH ?_
 refine hK5 _ _ ?_
 refine sk fun b2 a1 => ?_
 iterate 2 refine dx ?_
 refine QP S8 rfl (cB (vs := #[(.slice a l.length c), (.slice a2 n.length c2)]) (gK rfl rfl) rfl (QC _ _)) (tZ _ _ _ _ l n (S8).sat hv hn ok1.rise (by omega)) ?_
 intro b3 b4 a5 a0
 obtain ⟨b5, b6, rfl, _⟩ := Sl.shape a0
 refine dx ?_
 simp only [pq]
 refine aR a5 rfl (fn2 (QB _ _)) (QN _ _ _ _ (bP l n) k (a5).sat a0 hk (TreeOk.mono (show TreeOk 60 (bP l n) from oL ok1 n) (by omega)) (hkk) (rfl)) ?_
 intro b7 b9 c0 a7 a8 a9
 obtain ⟨_, rfl, b0, b1, rfl, a4⟩ := a9
 have a4 : Bs _ (.slice b0 ((mH (bP l n) k).getD []).length b1) ((mH (bP l n) k).getD []) := a4
 iterate 2 refine de ?_
 refine sW 0 a7 (gL) fun c1 a6 => ?_
 simp only [pq]
 refine dy ?_
 refine wn a1 ?_
 refine aO ?_
 try simp only [xt]
 refine bR (dM rfl ⟨_, rfl, lR a6 0 Tryz.underlying72 (gL)⟩ (gD rfl)) ?_
 exact ⟨_, _, rfl, a6.gr, _, rfl, _, _, rfl, a4⟩
theorem MM (F : Fz) (w : World) (v u z y : Value) (l : aW) (n k j : By) (hs : Sat w F) (hv : Tns F v l) (hn : Bs F u n) (hk : Bs F z k) (hj : Bs F y j) (ok1 : ForestOk 60 l) (hnn : 1 ≤ n.length ∧ n.length ≤ 8) (hkk : 1 ≤ k.length ∧ k.length ≤ 16) (hjj : 1 ≤ j.length ∧ j.length ≤ 16) :
    Calls Tryz.prog 107 #[v, u, z, y] w (dF w F (wL (gY (bP l n) k j) 0)) := by
 have hn0 := kT hnn.1 hnn.2
 have hl8 := ok1.len
 obtain ⟨a, c, rfl, hc1, hc2⟩ := Sl.shape hv
 obtain ⟨a2, c2, rfl, _⟩ := hn.shape
 obtain ⟨a3, c3, rfl, _⟩ := hk.shape
 obtain ⟨a4, c4, rfl, _⟩ := hj.shape
 have S := St.start hs
 go_enter Tryz.func107, Tryz.ntmps107
 refine sk fun K1 hK1 => ?_
 iterate 2 refine dy ?_
 refine wn hK1 ?_
 refine aE fun K2 hK2 => ?_
 refine sk fun K3 hK3 => ?_
 refine aC ?_
 refine aJ (v := (iI 0)) S rfl (fn2 (QA _ _)) (pB _ _ _ _ l n (S).sat hv hn ok1 hn0) (fun w4 S5 => ?_)
 refine dy ?_
 refine wn hK3 ?_
 refine sk fun K6 hK6 => ?_
 refine dx ?_
 refine dr bF (cH (b := false) rfl rfl (by decide)) ?_
 simp only [pq]
 refine wn hK6 ?_
 refine aF ?_
 refine aH ?_
 refine hK2 _ _ ?_
 refine sk fun K7 hK7 => ?_
 iterate 2 refine dx ?_
 refine QP S5 rfl (cB (vs := #[(.slice a l.length c), (.slice a2 n.length c2)]) (gK rfl rfl) rfl (QC _ _)) (tZ _ _ _ _ l n (S5).sat hv hn ok1.rise (by omega)) ?_
 intro x8 w9 a5 a0
 obtain ⟨b3, b4, rfl, _⟩ := Sl.shape a0
 refine aC ?_
 refine aR a5 rfl (fn3 (Dq _ _)) (KI _ _ _ _ _ (bP l n) k j (a5).sat a0 hk hj (TreeOk.mono (show TreeOk 60 (bP l n) from oL ok1 n) (by omega)) (hkk) (hjj)) ?_
 intro b5 b6 b7 a8 a9 b0
 obtain ⟨_, rfl, a1⟩ := b0
 obtain ⟨b1, a6, rfl, a7, b2⟩ := Sl.shape a1
 unfold maxLen at b2
 have a7 : (gY (bP l n) k j).length ≤ a6 := a7
 have a1 : Prs _ (.slice b1 (gY (bP l n) k j).length a6) (gY (bP l n) k j) := a1
 refine aC ?_
 refine wn hK7 ?_
 refine aO ?_
 try simp only [xt]
 refine bR (cI rfl (gD rfl) (gD rfl)) ?_
 exact ⟨_, _, rfl, a8.gr, _, rfl, a1⟩
theorem yI {F : Fz} {w : World} {v u : Value} {l g : aW} {ws : List Wr} {e : Int} (hs : Sat w F) (hv : Tns F v l) (hw : Wrs F u ws) (ok1 : ForestOk 60 l) (hb : ∀ r ∈ ws, WrOk r) (h : gV l ws = (e, g)) :
    Calls Tryz.prog 22 #[v, u] w (dF w F (ZB g e)) := by
 have := wN F w v u l ws hs hv hw ok1 fun r hr => by have h := hb r hr; have := h.name.2; have := h.key2; have := h.value; omega
 rwa [h] at this
theorem QQ {l : aW} {r : Wr} (h : WrOk r) : gV l [r] = match gF l r with | some g => (0, g) | none => (11, []) := by
 unfold gV
 rw [zZa (by simp), rC (by simpa using h), QG]
 cases gF l r <;> rfl
theorem BA (F : Fz) (w : World) (v u : Value) (l m : aW) (hs : Sat w F) (hv : Tns F v l) (hu : Tns F u m) (hl : l.length ≤ 1000000) (hL : ∀ t ∈ l, t.2.length ≤ 1000000) :
    Calls Tryz.prog 36 #[v, u] w (cT w (.bool (decide (l = m)))) := by
 obtain ⟨a, c, rfl, hc1, hc2⟩ := Sl.shape hv
 obtain ⟨a2, c2, rfl, hc3, hc4⟩ := Sl.shape hu
 unfold maxLen at hc2 hc4
 have S := St.start hs
 go_enter Tryz.func36, Tryz.ntmps36
 refine sk fun K1 hK1 => ?_
 refine dy ?_
 refine wn hK1 ?_
 refine aE fun K2 hK2 => ?_
 refine sk fun K3 hK3 => ?_
 refine aC ?_
 by_cases b4 : l.length = m.length
 refine jJ ?_
 refine wn hK3 ?_
 refine aF ?_
 refine aH ?_
 refine hK2 _ _ ?_
 refine aE fun K4 hK4 => ?_
 refine sk fun K5 hK5 => ?_
 refine dy ?_
 refine wn hK5 ?_
 refine aN ?_
 refine aX (fun mm aa w7 => ∃ (k : Nat) (u6 : Nat → Value), mm = l.length - k ∧ u6 = dX aa ∧ aa = ⟨([(.slice a l.length c), (.slice a2 m.length c2), undef, undef, (u6 4), (nI k), (.slice a l.length c), (nI l.length), (.slice a2 m.length c2), (nI m.length), bF] ++ (usF u6 11 32 [])).toArray, []⟩ ∧ St w F w7 F [] [] ∧ (k ≤ l.length) ∧ (∀ i, i < k → l[i]? = m[i]?)) _ ⟨0, _, rfl, rfl, rfl, S, (by omega), (fun i hi => absurd hi (by omega))⟩ ?_
 rintro m8 a9 e9 ⟨k, u6, rfl, -, hfr, a0, hk, hsm⟩ f0 b5
 simp only [uzF, Nat.reduceAdd] at hfr; subst hfr
 refine aE fun f1 b6 => ?_
 refine sk fun f2 a6 => ?_
 refine aC ?_
 by_cases b7 : k < l.length
 refine eS ?_
 refine wn a6 ?_
 refine aI ?_
 refine aH ?_
 refine b6 _ _ ?_
 refine aE fun f3 b9 => ?_
 refine aN ?_
 refine aE fun f4 a7 => ?_
 obtain ⟨t, hp⟩ : ∃ t, l[k]? = some t := ⟨l[k], zZc b7⟩
 obtain ⟨q, hq⟩ : ∃ q, m[k]? = some q := ⟨m[k]'(by omega), zZc (by omega)⟩
 have htl := hL t (zZi hp)
 obtain ⟨c0, c1, a4, a8, b0, d9, e0, d3, e2, d4, e3⟩ := Tns.get hv hp
 obtain ⟨c3, c4, a5, b1, b2, e4, e5, d5, e6, d6, e7⟩ := Tns.get hu hq
 by_cases e1 : t.1 = q.1
 refine aP F 23 [(10, .is bT)] (by kernel_rfl) (by kernel_rfl) ?_
 simp only [dA]
 iterate 2 refine gm ?_
 simp only [pq]
 refine gv (pP c0 (c1 + k * 2)) (fun _ _ => bN (i := k) (sz := 2) Tryz.underlying24 (cJ _) rfl a4 rfl (by omega) rfl) ?_
 refine gf (sB _ _) ?_
 refine gv _ (fun _ a1 => aD rfl (aQ (aZ _) (St.fz (St.tells a0 a1) d3))) ?_
 simp only [pq]
 iterate 2 refine gm ?_
 refine gv (pP c3 (c4 + k * 2)) (fun _ _ => bN (i := k) (sz := 2) Tryz.underlying24 (cJ _) rfl a5 rfl (by omega) rfl) ?_
 simp only [pq]
 refine gf (sB _ _) ?_
 refine gv _ (fun _ a1 => aD rfl (aQ (aZ _) (St.fz (St.tells a0 a1) d5))) ?_
 simp only [pq]
 refine fT rfl rfl (v := bT) (fun f5 a1 _ => bQ (cB (vs := #[(.slice a8 t.1.length b0), (.slice b1 q.1.length b2)]) (gK rfl rfl) rfl (DW _ _)) (fE (eI (dL (qN _ _ _ _ t.1 q.1 ((St.tells a0 a1)).sat d4 d6)) (beq_iff_eq.2 (e1))))) ?_
 refine gv bF (fun _ _ => qI (b := true) rfl rfl) ?_
 iterate 2 refine gm ?_
 simp only [pq]
 refine gm ?_
 refine gv (pP c0 (c1 + k * 2)) (fun _ _ => bN (i := k) (sz := 2) Tryz.underlying24 (cJ _) rfl a4 rfl (by omega) rfl) ?_
 refine gf (nZ _ _) ?_
 simp only [pq]
 refine gv _ (fun _ a1 => aD rfl (aQ (uW _) (St.fz (St.tells a0 a1) e2))) ?_
 iterate 2 refine gm ?_
 simp only [pq]
 refine gv (pP c3 (c4 + k * 2)) (fun _ _ => bN (i := k) (sz := 2) Tryz.underlying24 (cJ _) rfl a5 rfl (by omega) rfl) ?_
 refine gf (nZ _ _) ?_
 refine gv _ (fun _ a1 => aD rfl (aQ (uW _) (St.fz (St.tells a0 a1) e6))) ?_
 simp only [pq]
 refine bU ?_
 intro f6 c5 c6
 clear c6
 have d7 := St.tells a0 c5
 simp only [dB]
 refine aJ (v := (.bool (decide (t.2 = q.2)))) d7 rfl (fn2 (Gy _ _)) (ED _ _ _ _ t.2 q.2 (d7).sat e3 e7 (by omega)) (fun f7 d8 => ?_)
 simp only [pq]
 refine dr (.bool (!(decide (t.2 = q.2)))) (qI rfl rfl) ?_
 refine dp ?_
 refine wlK a7 ?_
 refine wp_cond_split rfl (fun a3 => ?_) (fun a3 => ?_)
 refine sk fun f8 c7 => ?_
 refine dy ?_
 simp only [pq]
 refine wn c7 ?_
 refine aO ?_
 try simp only [xt]
 refine bR (bA rfl (gD rfl)) ?_
 exact ⟨by rw [decide_eq_false (fun e => by rw [e] at hp; rw [hp] at hq; cases hq; first | exact e1 rfl | simp at a3)], d8.gr.below⟩
 refine aH ?_
 refine b9 _ _ ?_
 refine aB ?_
 refine dx ?_
 refine cR (k + 1) ?_
 refine dy ?_
 simp only [pq]
 refine aG ?_
 exact b5 _ _ _ (by omega) ⟨(k + 1), _, rfl, rfl, rfl, d8, (by omega), (fun i hi => by rcases Nat.lt_succ_iff_lt_or_eq.1 hi with h | rfl; exact hsm i h; rw [hp, hq, show t = q from Prod.ext e1 (by simpa using a3)])⟩
 refine aP F 23 [(10, .is bF)] (by kernel_rfl) (by kernel_rfl) ?_
 simp only [dA]
 iterate 2 refine gm ?_
 refine gv (pP c0 (c1 + k * 2)) (fun _ _ => bN (i := k) (sz := 2) Tryz.underlying24 (cJ _) rfl a4 rfl (by omega) rfl) ?_
 simp only [pq]
 refine gf (sB _ _) ?_
 refine gv _ (fun _ b3 => aD rfl (aQ (aZ _) (St.fz (St.tells a0 b3) d3))) ?_
 refine gm ?_
 simp only [pq]
 refine gm ?_
 refine gv (pP c3 (c4 + k * 2)) (fun _ _ => bN (i := k) (sz := 2) Tryz.underlying24 (cJ _) rfl a5 rfl (by omega) rfl) ?_
 refine gf (sB _ _) ?_
 simp only [pq]
 refine gv _ (fun _ b3 => aD rfl (aQ (aZ _) (St.fz (St.tells a0 b3) d5))) ?_
 simp only [pq]
 refine fT rfl rfl (v := bF) (fun f9 b3 _ => bQ (cB (vs := #[(.slice a8 t.1.length b0), (.slice b1 q.1.length b2)]) (gK rfl rfl) rfl (DW _ _)) (fE (eI (dL (qN _ _ _ _ t.1 q.1 ((St.tells a0 b3)).sat d4 d6)) (beq_eq_false_iff_ne.2 (e1))))) ?_
 refine gv bT (fun _ _ => qI (b := false) rfl rfl) ?_
 refine gm ?_
 simp only [pq]
 refine cX (bL rfl rfl rfl (c := true) rfl (by decide)) ?_
 simp only [pq]
 refine cX (bL rfl rfl rfl (c := true) rfl (by decide)) ?_
 simp only [pq]
 refine cX (bL rfl rfl rfl (c := true) rfl (by decide)) ?_
 simp only [pq]
 refine cX (bL rfl rfl rfl (c := true) rfl (by decide)) ?_
 simp only [pq]
 refine cX (bL rfl rfl rfl (c := true) rfl (by decide)) ?_
 simp only [pq]
 refine cX (bL rfl rfl rfl (c := true) rfl (by decide)) ?_
 simp only [pq]
 refine cX (bL rfl rfl rfl (c := true) rfl (by decide)) ?_
 simp only [pq]
 refine cX (bL rfl rfl rfl (c := true) rfl (by decide)) ?_
 simp only [pq]
 refine cX (bL rfl rfl rfl (c := true) rfl (by decide)) ?_
 simp only [pq]
 refine cX (bL rfl rfl rfl (c := true) rfl (by decide)) ?_
 refine bU ?_
 intro g0 c8 c9
 clear c9
 have e8 := St.tells a0 c8
 simp only [dB]
 refine aC ?_
 refine wlK a7 ?_
 refine aI ?_
 refine sk fun g1 d0 => ?_
 refine dy ?_
 simp only [pq]
 refine wn d0 ?_
 refine aO ?_
 try simp only [xt]
 refine bR (bA rfl (gD rfl)) ?_
 exact ⟨by rw [decide_eq_false (fun e => by rw [e] at hp; rw [hp] at hq; cases hq; first | exact e1 rfl | simp at a3)], e8.gr.below⟩
 refine eM ?_
 refine wn a6 ?_
 refine aF ?_
 refine cP ?_
 refine hK4 _ _ ?_
 refine sk fun g2 d1 => ?_
 refine dy ?_
 refine wn d1 ?_
 refine aO ?_
 try simp only [xt]
 refine bR (bA rfl (gD rfl)) ?_
 exact ⟨by rw [decide_eq_true (List.ext_getElem? fun i => by rcases Nat.lt_or_ge i k with h | h; exact hsm i h; rw [List.getElem?_eq_none (by omega), List.getElem?_eq_none (by omega)])], a0.gr.below⟩
 refine mQ ?_
 simp only [pq]
 refine wn hK3 ?_
 refine aI ?_
 refine sk fun g3 d2 => ?_
 refine dy ?_
 refine wn d2 ?_
 refine aO ?_
 try simp only [xt]
 refine bR (bA rfl (gD rfl)) ?_
 exact ⟨by rw [decide_eq_false (fun e => b4 (by rw [e]))], S.gr.below⟩
theorem wO (F : Fz) (w : World) (v : Value) (l : aW) (hs : Sat w F) (hv : Tns F v l) (ok : ForestOk 60 l) :
    Calls Tryz.prog 32 #[v] w (cT w (.int .i64 0)) := by
 have := kE F w v l hs hv
 rwa [oZ.2 ok] at this
section
variable {α β : Type} {k k2 E E2 base base2 : Nat} {R : Fz → List Value → α → Prop} {R2 : Fz → List Value → β → Prop} {w0 W w w' : World} {F0 F F' : Fz} {L : List Blk} {M : List RowP} {v v2 : Value} {l : List α} {l2 : List β}
theorem Own.at_heap (h : Own k R E base w F v l) {g : Nat} (hg : v.ownBlock = some g) : ∃ cur : Array Value, w.heap[g]? = some (.cells cur E (0, 0)) := by
 obtain ⟨el, ⟨_, h2⟩, _⟩ := h.ex
 rcases h2 with ⟨rfl, _⟩ | ⟨b, cap, cur, rfl, _, h3, _⟩
 ·cases hg
 ·cases hg; exact ⟨cur, h3⟩
theorem VL (h1 : Own k R E base w F v l) (h2 : Own k2 R2 E2 base2 w F v2 l2) (hE : E ≠ E2) : ∀ g, v.ownBlock = some g → v2.ownBlock ≠ some g := by
 intro g hg hc
 obtain ⟨c1, e1⟩ := h1.at_heap hg
 obtain ⟨c2, e2⟩ := h2.at_heap hc
 rw [e1] at e2
 injection e2 with e2
 injection e2 with _ e2
 exact hE e2
def MadeO {α : Type} (W : World) (F : Fz) (k : Nat) (R : Fz → List Value → α → Prop) (E : Nat) (l : List α) (v : Value) (w : World) : Prop := ∃ F', Gr W F w F' ∧ Own k R E W.heap.size w F' v l
theorem MadeO.stable (hR : ∀ F F' x p, Le F F' → R F x p → R F' x p) (W : World) (F : Fz) (k E : Nat) (l : List α) : Gf (MadeO W F k R E l) :=
  fun v w w' ⟨F', g, h⟩ hb => ⟨F', g.trans (Gr.of_below g.sat hb), h.gr hR g.sat (Gr.of_below g.sat hb)⟩
theorem QR {P : Program} {f : FuncId} {args : Array Value} (hs : Sat W F) (hC : Below W.heap.size W w) (h : Calls P f args w (qJ w F k R E l)) : Calls P f args w (qP (kV (MadeO W F k R E l) w)) :=
  h.mono fun e w' ⟨v, F', he, g, ho⟩ => ⟨v, he, ⟨F', (Gr.of_below hs hC).trans g, ho.rebase fun b hb => zZo hC.size (ho.lt b hb).1⟩, g.below⟩
theorem Own.dropF (h : Own k R E base w F v l) {n : Nat} (hx : ∀ cs p, R F cs p → R (Proofs.YtilgpdpooildcaaGreatDoor.dropF F n) cs p) : Own k R E base w (Proofs.YtilgpdpooildcaaGreatDoor.dropF F n) v l := by
 obtain ⟨el, h1, h2, h3⟩ := h.ex
 refine ⟨⟨el, h1, h2.imp hx, h3⟩, fun g hg => ?_⟩
 unfold Proofs.YtilgpdpooildcaaGreatDoor.dropF
 split
 rfl
 exact h.out g hg
theorem St.addBlkRow {hR : ∀ F F' x p, Le F F' → R F x p → R F' x p} {n : Nat} {cs : List Value} {T : TypeId} (S : St w0 F0 W F L M) (g : Gr W F w F') (ho : Own k R E W.heap.size w F' v l) (hn : W.heap.size ≤ n) (hb : w.heap[n]? = some (.cells cs.toArray T (0, 0))) (hE : E ≠ T) (hx : ∀ cs p, R F' cs p → R (Proofs.YtilgpdpooildcaaGreatDoor.dropF F' n) cs p) :
    St w0 F0 w (Proofs.YtilgpdpooildcaaGreatDoor.dropF F' n) (⟨n, cs, T⟩ :: L) (cU k R hR E w0.heap.size v l :: M) := by
 have g' := g.dropF S.sat hn
 have ho' := ho.dropF (n := n) hx
 have S' := S.addRow (hR := hR) g' ho'
 refine ⟨S'.gr, fun x hx => ?_, S'.row, List.pairwise_cons.2 ⟨fun y hy => ?_, S'.bb⟩, fun r hr x hx => ?_, S'.rr⟩
 rcases List.mem_cons.1 hx with rfl | hx
 exact ⟨hb, oX _ _, zZo S.gr.below.size hn⟩
 exact S'.blk x hx
 have := S.blk_lt hy
 simp only
 omega
 rcases List.mem_cons.1 hx with rfl | hx
 rcases List.mem_cons.1 hr with rfl | hr
 intro e
 obtain ⟨c, e1⟩ := ho'.at_heap e
 rw [hb] at e1
 injection e1 with e1
 injection e1 with _ e1
 exact hE e1.symm
 intro e
 have := ((S.row r hr).2 _ e).1
 simp at this
 omega
 exact S'.rb r hr x hx
theorem St.addRow2 {hR : ∀ F F' x p, Le F F' → R F x p → R F' x p} {hR2 : ∀ F F' x p, Le F F' → R2 F x p → R2 F' x p} (S : St w0 F0 w F L M) (g : Gr w F w' F') (h1 : Own k R E w.heap.size w' F' v l) (h2 : Own k2 R2 E2 w.heap.size w' F' v2 l2) (hE : E ≠ E2) :
    St w0 F0 w' F' L (cU k R hR E w0.heap.size v l :: cU k2 R2 hR2 E2 w0.heap.size v2 l2 :: M) := by
 have S' := S.addRow (hR := hR2) g h2
 have hlt := h1.lt
 have ho' : Own k R E w0.heap.size w' F' v l := h1.rebase fun b hb => zZo S.gr.below.size (hlt b hb).1
 refine ⟨S'.gr, S'.blk, fun r hr => ?_, S'.bb, fun r hr x hx => ?_, List.pairwise_cons.2 ⟨fun s hs b hb hc => ?_, S'.rr⟩⟩
 rcases List.mem_cons.1 hr with rfl | hr
 exact ⟨ho', fun b hb => ⟨(hlt b hb).2, h1.out b hb, zZo S.gr.below.size (hlt b hb).1⟩⟩
 exact S'.row r hr
 rcases List.mem_cons.1 hr with rfl | hr
 intro e
 have h1 := (hlt _ e).1
 have h2 := S.blk_lt hx
 omega
 exact S'.rb r hr x hx
 rcases List.mem_cons.1 hs with rfl | hs
 exact VL h1 h2 hE b hb hc
 have h1 := (hlt b hb).1
 have h2 := ((S.row s hs).2 b hc).1
 omega
end
section
variable {w : World} {F : Fz} {n : Nat} {cs : List Value} {T : TypeId}
theorem WrC.dropF (hs : Sat w F) (hb : w.heap[n]? = some (.cells cs.toArray T (0, 0))) (hc : ∀ u ∈ cs, ∀ x, u ≠ bv x) (c : List Value) (p : Wr) (h : WrC F c p) : WrC (Proofs.YtilgpdpooildcaaGreatDoor.dropF F n) c p := by
 obtain ⟨a0, a1, a2, a3, rfl, h0, h1, h2, h3⟩ := h
 exact ⟨a0, a1, a2, a3, rfl, h0.dropF hs hb hc, h1.dropF hs hb hc, h2, h3.dropF hs hb hc⟩
theorem RdC.dropF (hs : Sat w F) (hb : w.heap[n]? = some (.cells cs.toArray T (0, 0))) (hc : ∀ u ∈ cs, ∀ x, u ≠ bv x) (c : List Value) (p : Rd) (h : RdC F c p) : RdC (Proofs.YtilgpdpooildcaaGreatDoor.dropF F n) c p := by
 obtain ⟨a0, a1, a2, a3, rfl, h0, h1, h2, h3⟩ := h
 exact ⟨a0, a1, a2, a3, rfl, h0.dropF hs hb hc, h1.dropF hs hb hc, h2, h3.dropF hs hb hc⟩
end
theorem FactsAt.getR {md : Region.Mode} {ops : Array Oper} {W : World} {F : Fz} {L : List (Nat × Mark)} {Vs : eW} {w : World} {j : Nat} (h : FactsAt md ops (gQ W F L) j Vs w) (i : Nat) {v : Value} {R : Value → World → Prop} (ha : kN md ops ops.size j i = true) (hv : Vs i = some v) (hL : gQ W F L i = .rel R) : R v w := by
 have := h i v ha hv
 rw [hL] at this
 exact this
theorem oB {P : Program} {f : FuncId} {vs : Array Value} {α : Type} {k E : Nat} {R : Fz → List Value → α → Prop} (hR : ∀ F F' x p, Le F F' → R F x p → R F' x p) {w : World} {F : Fz} {l : List α} (h : Calls P f vs w (qJ w F k R E l)) : Calls P f vs w (dF w F fun F' u => Sl k R F' u l) :=
  h.mono fun e w' ⟨v, F', he, g, ho⟩ => by
    obtain ⟨F2, g2, _, h2⟩ := ho.freeze hR g (zZe _)
    exact ⟨v, F2, he, g2, h2⟩
def TT (w : World) (F : Fz) (Er Ew : Nat) (t : Tx) (e : Ending) (w' : World) : Prop := ∃ v1 v2 F', e = .returned (.agg #[.int .i64 t.start, v1, v2]) ∧ Gr w F w' F' ∧ Own 4 RdC Er w.heap.size w' F' v1 t.reads ∧ Own 4 WrC Ew w.heap.size w' F' v2 t.writes
theorem HR {P : Program} {ops : Array Oper} {Q : Exit → Act → World → Prop} {a : Act} {rest : List Oper} {o : Oper} {kf : FuncId} {vs : Array Value} {w0 w : World} {F0 F : Fz} {L : List Blk} {M : List RowP} {Er Ew : Nat} {t : Tx} (S : St w0 F0 w F L M) (hw : Region.wanted o (yielded ops a.tmps) = true)
    (hr : (execOp a.eval o).run P w = .ok (.enter kf vs) w) (hc : Calls P kf vs w (TT w F Er Ew t)) (hE : Er ≠ Ew)
    (h : ∀ a1 c1 a2 c2 w' F', St w0 F0 w' F' L (cU 4 RdC RdC.mono Er w0.heap.size (.slice a1 t.reads.length c1) t.reads :: cU 4 WrC WrC.mono Ew w0.heap.size (.slice a2 t.writes.length c2) t.writes :: M) → Le F F' → c1 ≤ maxLen → c2 ≤ maxLen → WL P ops Q rest (a.put o.dst (.agg #[.int .i64 t.start, .slice a1 t.reads.length c1, .slice a2 t.writes.length c2])) w') : WL P ops Q (o :: rest) a w :=
  doC hw hr hc fun e w' ⟨v1, v2, F', he, g, h1, h2⟩ => by
    obtain ⟨a1, c1, rfl, _, q1⟩ := h1.shape
    obtain ⟨a2, c2, rfl, _, q2⟩ := h2.shape
    exact ⟨_, he, h a1 c1 a2 c2 w' F' (S.addRow2 g h1 h2 hE) (g.le S.sat) q1 q2⟩
section
variable {P : Program} {ops : Array Oper} {md : Region.Mode} {C : World → Prop} {Sp : Nat → OpSpec}
theorem GB (hC : ∃ w, C w) {i : Nat} {oi : Oper} {T : List Nat} {L : Array Bool → Act → eW → Prop} (hi : ops[i]? = some oi) (hsel : ∀ (j : Nat) (o : Oper) cs b, ops[j]? = some o → o.op ≠ .select cs b)
    (hdone : ∀ listed a Vs, L listed a Vs → ∀ j ∈ Region.ready md ops listed, j ∈ T) (hT : ∀ t ∈ T, kN md ops ops.size t i = true) :
    ∀ (f : Nat) (listed : Array Bool) (a : Act) (Vs : eW), HeadInv md ops ops.size listed →
      (∀ j oj, ops[j]? = some oj → j ≠ i → listed.getD j true = false → (∀ e ∈ oj.after, Region.binds md e = true → e.on ≠ i) → oi.apart ops oj = true) →
      i ∈ Region.ready md ops listed →
      gOp P md ops C Sp i (qH P md ops C Sp ops.size L f (listed.setIfInBounds i true)) a Vs → qH P md ops C Sp ops.size L (f + 1) listed a Vs := by
 intro f
 induction f with
 | zero =>
  intro listed a Vs inv _ hr H
  have hun := (mem_ready.1 hr).1
  refine ⟨fun h => (by rw [h] at hr; cases hr), fun j hj => ?_⟩
  obtain ⟨_, oj, hoj, _⟩ := mem_ready.1 hj
  have hjn : j < ops.size := (Array.getElem?_eq_some_iff.1 hoj).1
  refine ⟨hjn, ?_⟩
  by_cases hji : j = i
  subst hji; exact H
  obtain ⟨a', Vs', hL⟩ := CO H
  have h1 := hdone _ _ _ hL j (ready_mono hj hji)
  have h2 := kC inv hj _ _ (hT j h1)
  rw [getD_both hun] at h2
  cases h2
 | succ f ih =>
  intro listed a Vs inv hfree hr H
  have hun := (mem_ready.1 hr).1
  refine ⟨fun h => (by rw [h] at hr; cases hr), fun j hj => ?_⟩
  obtain ⟨hjun, oj, hoj, hall⟩ := mem_ready.1 hj
  have hjn : j < ops.size := (Array.getElem?_eq_some_iff.1 hoj).1
  refine ⟨hjn, ?_⟩
  by_cases hji : j = i
  subst hji; exact H
  have hnot : ∀ e ∈ oj.after, Region.binds md e = true → e.on ≠ i := fun e he hb heq => by
   have h1 := hall e he hb
   rw [heq, getD_both hun] at h1
   cases h1
  have a1 : kN md ops ops.size j i = false := by
   cases hx : kN md ops ops.size j i with
   | false => rfl
   | true => have := kC inv hj _ _ hx; rw [getD_both hun] at this; cases this
  have a2 : kN md ops ops.size i j = false := by
   cases hx : kN md ops ops.size i j with
   | false => rfl
   | true => have := kC inv hr _ _ hx; rw [getD_both hjun] at this; cases this
  have H1 : gOp P md ops C Sp i (gOp P md ops C Sp j (qH P md ops C Sp ops.size L f ((listed.setIfInBounds i true).setIfInBounds j true))) a Vs :=
   lT (fun a' Vs' h => (h.2 j (ready_mono hj hji)).2) H
  have H2 := CP hC hi hoj (Ne.symm hji) (hfree j oj hoj hji hjun hnot) (fun cs b => hsel i oi cs b hi) (fun cs b => hsel j oj cs b hoj) a1 a2 H1
  have hfree' : ∀ k ok, ops[k]? = some ok → k ≠ i → (listed.setIfInBounds j true).getD k true = false →
    (∀ e ∈ ok.after, Region.binds md e = true → e.on ≠ i) → oi.apart ops ok = true := fun k ok hk hki hun' hno => by
   refine hfree k ok hk hki ?_ hno
   by_cases hjk : j = k
   subst hjk; exact hjun
   rw [getD_set_ne true hjk] at hun'; exact hun'
  refine lT (fun a' Vs' h3 => ih (listed.setIfInBounds j true) a' Vs' (inv.set hj hjn) hfree' (ready_mono hr (Ne.symm hji)) ?_) H2
  rw [Array.setIfInBounds_comm _ _ hji]
  exact h3
def BB (P : Program) (md : Region.Mode) (ops : Array Oper) (C : World → Prop) (Sp : Nat → OpSpec) (Lq : Act → eW → Prop) : List (Nat × Oper) → Act → eW → Prop
  | [], a, Vs => Lq a Vs
  | (k, o) :: l, a, Vs => if Region.wanted o (yielded ops a.tmps) = true then ∃ S, Ob P md ops C Sp k o a Vs S ∧ ∀ v, S v → BB P md ops C Sp Lq l (a.put o.dst v) (oK (Sp k) Vs k v) else BB P md ops C Sp Lq l (a.put o.dst undef) Vs
def zJ (md : Region.Mode) (ops : Array Oper) : List Nat → Array Bool → Bool
  | [], listed => (Region.ready md ops listed).isEmpty
  | k :: ks, listed => decide (Region.ready md ops listed = [k]) && zJ md ops ks (listed.setIfInBounds k true)
def MN (md : Region.Mode) (ops : Array Oper) (T : List Nat) : List Nat → Array Bool → Bool
  | [], listed => zJ md ops T listed
  | k :: ks, listed => (Region.ready md ops listed).contains k && Region.free md ops listed k && MN md ops T ks (listed.setIfInBounds k true)
theorem EF {T : List Nat} {listed : Array Bool} (h : zJ md ops T listed = true) : ∀ j ∈ Region.ready md ops listed, j ∈ T := by
 cases T with
 | nil => intro j hj; simp only [zJ, List.isEmpty_iff] at h; rw [h] at hj; cases hj
 | cons t T =>
  intro j hj
  simp only [zJ, Bool.and_eq_true, decide_eq_true_eq] at h
  rw [h.1] at hj
  have : j = t := by simpa using hj
  subst this
  exact List.mem_cons_self ..
theorem nA {Q' : Exit → Act → World → Prop} : ∀ (l : List (Nat × Oper)) (listed : Array Bool) (a : Act) (w : World), (∀ p ∈ l, ops[p.1]? = some p.2) →
    zJ md ops (l.map (·.1)) listed = true → wpList P ops Q' (l.map (·.2)) a w → wpAny P md ops Q' l.length listed a w
  | [], _, _, _, _, hB, h => ⟨by simpa [zJ] using hB, h⟩
  | (k, o) :: l, listed, a, w, hl, hB, h => by
    have h0 : ops[k]? = some o := hl (k, o) (List.mem_cons_self ..)
    simp only [List.map_cons, zJ, Bool.and_eq_true, decide_eq_true_eq] at hB
    refine ⟨fun h1 => (by rw [hB.1] at h1; cases h1), fun i hi => ?_⟩
    rw [hB.1] at hi
    have hik : i = k := by simpa using hi
    subst hik
    have hw : wpOp P ops Q' i (wpList P ops Q' (l.map (·.2))) a w := by unfold wpOp; simp only [h0]; exact h
    exact wpOp_mono (fun a' w' h' => nA l _ a' w' (fun p hp => hl p (List.mem_cons_of_mem _ hp)) hB.2 h') hw
theorem AK (hC : ∃ w, C w) {T : List Nat} {Lq : Act → eW → Prop} (hsel : Region.noSelect ops = true) :
    ∀ (l : List (Nat × Oper)) (listed : Array Bool) (a : Act) (Vs : eW), (∀ p ∈ l, ops[p.1]? = some p.2) → (∀ t ∈ T, ∀ p ∈ l, kN md ops ops.size t p.1 = true) → HeadInv md ops ops.size listed →
    MN md ops T (l.map (·.1)) listed = true → BB P md ops C Sp Lq l a Vs →
    qH P md ops C Sp ops.size (fun listed' a' Vs' => zJ md ops T listed' = true ∧ Lq a' Vs') l.length listed a Vs
  | [], listed, a, Vs, _, _, _, hB, h => ⟨by simpa [MN] using hB, h⟩
  | (k, o) :: l, listed, a, Vs, hl, hT, inv, hB, h => by
    have h0 : ops[k]? = some o := hl (k, o) (List.mem_cons_self ..)
    have hkn : k < ops.size := (Array.getElem?_eq_some_iff.1 h0).1
    simp only [List.map_cons, MN, Bool.and_eq_true] at hB
    obtain ⟨⟨hr, hf⟩, hB'⟩ := hB
    have hr' : k ∈ Region.ready md ops listed := by simpa using hr
    have hg : gOp P md ops C Sp k (BB P md ops C Sp Lq l) a Vs := by unfold gOp; simp only [h0]; exact h
    exact GB hC h0 (Region.noSelect_spec hsel) (fun listed' a' Vs' hL => EF hL.1) (fun t ht => hT t ht (k, o) (List.mem_cons_self ..)) l.length listed a Vs inv (Region.free_spec h0 hf) hr'
      (lT (fun a' Vs' h' => AK hC hsel l _ a' Vs' (fun p hp => hl p (List.mem_cons_of_mem _ hp)) (fun t ht p hp => hT t ht p (List.mem_cons_of_mem _ hp)) (inv.set hr' hkn) hB' h') hg)
end
def gB (l : List Oper) : List Nat → List (Nat × Oper)
  | [] => []
  | k :: ks => match l[k]? with
    | some o => (k, o) :: gB l ks
    | none => gB l ks
theorem pD {l : List Oper} : ∀ {ks : List Nat} {p : Nat × Oper}, p ∈ gB l ks → l.toArray[p.1]? = some p.2
  | [], p, h => by cases h
  | k :: ks, p, h => by
    unfold gB at h
    split at h
    · rename_i o ho
      rcases List.mem_cons.1 h with rfl | h
      · simpa using ho
      · exact pD h
    · exact pD h
def Fu (md : Region.Mode) (ops : Array Oper) (hd tl : List Nat) : Bool :=
  Region.noSelect ops && decide (hd.length + tl.length = ops.size) && MN md ops tl hd (Array.replicate ops.size false) && tl.all fun t => hd.all fun i => kN md ops ops.size t i
theorem ZC {P : Program} {id : Nat} {Q : Exit → Act → World → Prop} {a : Act} {w : World} {l : List Oper} (hd tl : List Nat) (Sp : Nat → OpSpec) (hm : P.follows .mixedOrders = true) (hB : Fu .any l.toArray hd tl = true)
    (e1 : (gB l hd).map (·.1) = hd) (e2 : (gB l tl).map (·.1) = tl)
    (hst : ∀ i v w w', kJ (Sp i) v w → Below w.heap.size w w' → kJ (Sp i) v w')
    (h : BB P .any l.toArray (fun w' => Below w.heap.size w w') Sp (fun a' Vs => ∀ w', Below w.heap.size w w' → Facts Sp Vs w' → wpList P l.toArray Q ((gB l tl).map (·.2)) a' w') (gB l hd) a (fun _ => none)) : (Code.region id l.toArray true).wp P Q a w := by
 simp only [Fu, Bool.and_eq_true, decide_eq_true_eq] at hB
 obtain ⟨⟨⟨hsel, hn⟩, hlex⟩, hanc⟩ := hB
 have inv0 : HeadInv .any l.toArray l.toArray.size (Array.replicate l.toArray.size false) :=
  ⟨by simp, fun j oj _ hl => (by rw [getD_replicate_false] at hl; cases hl), fun t h1 h2 => by omega⟩
 have H := AK (md := .any) (T := tl) ⟨w, Below.refl _ _⟩ hsel (gB l hd) _ a _ (fun p hp => pD hp) (fun t ht p hp => by
  have h1 := List.all_eq_true.1 hanc t ht
  exact List.all_eq_true.1 h1 p.1 (by rw [← e1]; exact List.mem_map.2 ⟨p, hp, rfl⟩)) inv0 (by rw [e1]; exact hlex) h
 refine wp_region_any hm ?_
 have hlh : (gB l hd).length = hd.length := by have := congrArg List.length e1; simpa using this
 have hlt : (gB l tl).length = tl.length := by have := congrArg List.length e2; simpa using this
 have := lA (Q' := Q) (g := (gB l tl).length) hst (fun w1 w2 h1 h2 => h1.trans (h2.mono h1.size)) (fun listed a' Vs w' hC hF hL =>
  nA (md := .any) (Q' := Q) (gB l tl) listed a' w' (fun p hp => pD hp) (by rw [e2]; exact hL.1) (hL.2 w' hC hF)) _ _ _ _ ({ w with drawn := w.drawn + 1 } : World) (Below.refl w.heap.size w).drew (fun i v h => by cases h) H
 rw [hlh, hlt, hn] at this
 exact this
structure GP (P : Program) (md : Region.Mode) (ops : Array Oper) (C : World → Prop) (Sp : Nat → OpSpec) (Lq : Act → eW → Prop) (l : List (Nat × Oper)) (a : Act) (Vs : eW) : Prop where
  out : BB P md ops C Sp Lq l a Vs
section
variable {P : Program} {ops : Array Oper} {md : Region.Mode} {C : World → Prop} {Sp : Nat → OpSpec} {Lq : Act → eW → Prop} {o : Oper} {l : List (Nat × Oper)} {k : Nat} {a : Act} {Vs : eW}
theorem zK (h : Lq a Vs) : GP P md ops C Sp Lq [] a Vs := ⟨h⟩
theorem bV (hw : Region.wanted o (yielded ops a.tmps) = true) (hs : Sp k = .pure) (v : Value) (h : ∀ w, C w → PureAt P o a w v) (hn : GP P md ops C Sp Lq l (a.put o.dst v) Vs) : GP P md ops C Sp Lq ((k, o) :: l) a Vs := by
 refine ⟨?_⟩
 unfold BB
 rw [zZb hw]
 refine ⟨fun u => u = v, by unfold Ob; rw [hs]; exact ⟨v, rfl, h⟩, fun u hu => ?_⟩
 subst hu
 rw [hs]
 exact hn.out
theorem ZD (hw : Region.wanted o (yielded ops a.tmps) = true) {v : Value} (hs : Sp k = .const v) (h : ∀ w, C w → FactsAt md ops Sp k Vs w → kO P o a w (wD v w)) (hn : GP P md ops C Sp Lq l (a.put o.dst v) Vs) : GP P md ops C Sp Lq ((k, o) :: l) a Vs := by
 refine ⟨?_⟩
 unfold BB
 rw [zZb hw]
 refine ⟨fun u => u = v, by unfold Ob; rw [hs]; exact ⟨rfl, h⟩, fun u hu => ?_⟩
 subst hu
 rw [hs]
 exact hn.out
theorem lE (hw : Region.wanted o (yielded ops a.tmps) = true) {R : Value → World → Prop} (hs : Sp k = .rel R) (h : ∀ w, C w → FactsAt md ops Sp k Vs w → kO P o a w (kV R w)) (hn : ∀ v, GP P md ops C Sp Lq l (a.put o.dst v) (upd Vs k v)) : GP P md ops C Sp Lq ((k, o) :: l) a Vs := by
 refine ⟨?_⟩
 unfold BB
 rw [zZb hw]
 refine ⟨fun _ => True, by unfold Ob; rw [hs]; exact ⟨rfl, h⟩, fun u _ => ?_⟩
 rw [hs]
 exact (hn u).out
end
structure LT (P : Program) (ops : Array Oper) (Q : Exit → Act → World → Prop) (os : Oper) (rest : List Oper) (a : Act) (w : World) : Prop where
  out : ∃ w', os.guard = none ∧ os.dst = none ∧ (execOp a.eval os).run P w = .ok .skip w' ∧ wpList P ops Q rest a w'
section
variable {P : Program} {ops : Array Oper} {md : Region.Mode} {C : World → Prop} {Sp : Nat → OpSpec}
def zL (P : Program) (md : Region.Mode) (ops : Array Oper) (C : World → Prop) (Sp : Nat → OpSpec) (s : Nat) (L E : Array Bool → Act → eW → Prop) : Nat → Array Bool → Act → eW → Prop
  | 0, listed, a, Vs => L listed a Vs
  | f + 1, listed, a, Vs => Region.ready md ops listed ≠ [] ∧ ∀ i ∈ Region.ready md ops listed, (i ≠ s → gOp P md ops C Sp i (zL P md ops C Sp s L E f (listed.setIfInBounds i true)) a Vs) ∧ (i = s → f = 0 ∧ E listed a Vs)
theorem KJ (hC : ∃ w, C w) {i s : Nat} {oi : Oper} {T : List Nat} {L E : Array Bool → Act → eW → Prop} (hi : ops[i]? = some oi) (hsel : ∀ (j : Nat) (o : Oper) cs b, ops[j]? = some o → o.op ≠ .select cs b)
    (hdone : ∀ listed a Vs, L listed a Vs → ∀ j ∈ Region.ready md ops listed, j ∈ T) (hT : ∀ t ∈ T, kN md ops ops.size t i = true) (hsT : s ∈ T) (his : i ≠ s) :
    ∀ (f : Nat) (listed : Array Bool) (a : Act) (Vs : eW), HeadInv md ops ops.size listed →
      (∀ j oj, ops[j]? = some oj → j ≠ i → listed.getD j true = false → (∀ e ∈ oj.after, Region.binds md e = true → e.on ≠ i) → oi.apart ops oj = true) →
      i ∈ Region.ready md ops listed →
      gOp P md ops C Sp i (zL P md ops C Sp s L E f (listed.setIfInBounds i true)) a Vs → zL P md ops C Sp s L E (f + 1) listed a Vs := by
 intro f
 induction f with
 | zero =>
  intro listed a Vs inv _ hr H
  have hun := (mem_ready.1 hr).1
  refine ⟨fun h => (by rw [h] at hr; cases hr), fun j hj => ?_⟩
  by_cases hji : j = i
  subst hji; exact ⟨fun _ => H, fun e => absurd e his⟩
  obtain ⟨a', Vs', hL⟩ := CO H
  have h1 := hdone _ _ _ hL j (ready_mono hj hji)
  have h2 := kC inv hj _ _ (hT j h1)
  rw [getD_both hun] at h2
  cases h2
 | succ f ih =>
  intro listed a Vs inv hfree hr H
  have hun := (mem_ready.1 hr).1
  refine ⟨fun h => (by rw [h] at hr; cases hr), fun j hj => ?_⟩
  obtain ⟨hjun, oj, hoj, hall⟩ := mem_ready.1 hj
  have hjn : j < ops.size := (Array.getElem?_eq_some_iff.1 hoj).1
  by_cases hji : j = i
  subst hji; exact ⟨fun _ => H, fun e => absurd e his⟩
  by_cases hjs : j = s
  subst hjs
  have h2 := kC inv hj _ _ (hT j hsT)
  rw [getD_both hun] at h2
  cases h2
  refine ⟨fun _ => ?_, fun e => absurd e hjs⟩
  have hnot : ∀ e ∈ oj.after, Region.binds md e = true → e.on ≠ i := fun e he hb heq => by
   have h1 := hall e he hb
   rw [heq, getD_both hun] at h1
   cases h1
  have a1 : kN md ops ops.size j i = false := by
   cases hx : kN md ops ops.size j i with
   | false => rfl
   | true => have := kC inv hj _ _ hx; rw [getD_both hun] at this; cases this
  have a2 : kN md ops ops.size i j = false := by
   cases hx : kN md ops ops.size i j with
   | false => rfl
   | true => have := kC inv hr _ _ hx; rw [getD_both hjun] at this; cases this
  have H1 : gOp P md ops C Sp i (gOp P md ops C Sp j (zL P md ops C Sp s L E f ((listed.setIfInBounds i true).setIfInBounds j true))) a Vs :=
   lT (fun a' Vs' h => (h.2 j (ready_mono hj hji)).1 hjs) H
  have H2 := CP hC hi hoj (Ne.symm hji) (hfree j oj hoj hji hjun hnot) (fun cs b => hsel i oi cs b hi) (fun cs b => hsel j oj cs b hoj) a1 a2 H1
  have hfree' : ∀ k ok, ops[k]? = some ok → k ≠ i → (listed.setIfInBounds j true).getD k true = false →
    (∀ e ∈ ok.after, Region.binds md e = true → e.on ≠ i) → oi.apart ops ok = true := fun k ok hk hki hun' hno => by
   refine hfree k ok hk hki ?_ hno
   by_cases hjk : j = k
   subst hjk; exact hjun
   rw [getD_set_ne true hjk] at hun'; exact hun'
  refine lT (fun a' Vs' h3 => ih (listed.setIfInBounds j true) a' Vs' (inv.set hj hjn) hfree' (ready_mono hr (Ne.symm hji)) ?_) H2
  rw [Array.setIfInBounds_comm _ _ hji]
  exact h3
def MO (P : Program) (md : Region.Mode) (ops : Array Oper) (Q : Exit → Act → World → Prop) (C : World → Prop) (Sp : Nat → OpSpec) (p : Nat) (op os : Oper) (tail : List Oper) (a : Act) (Vs : eW) : Prop :=
  op.guard = none ∧ ∃ v, Sp p = .const v ∧ (∀ w, C w → FactsAt md ops Sp p Vs w → ∀ w1, PureAt P op a w1 v) ∧ ∀ w, C w → Facts Sp Vs w → LT P ops Q os tail (a.put op.dst v) w
def TU (md : Region.Mode) (ops : Array Oper) (p s : Nat) (T : List Nat) (listed : Array Bool) : Bool :=
  ((Region.ready md ops listed).all fun j => j == p || j == s) && (Region.ready md ops listed).contains p && Region.free md ops listed p && zJ md ops (s :: T) (listed.setIfInBounds p true) && zJ md ops (p :: T) (listed.setIfInBounds s true)
def MP (md : Region.Mode) (ops : Array Oper) (p s : Nat) (T : List Nat) : List Nat → Array Bool → Bool
  | [], listed => TU md ops p s T listed
  | k :: ks, listed => (Region.ready md ops listed).contains k && Region.free md ops listed k && MP md ops p s T ks (listed.setIfInBounds k true)
theorem KK {o : Oper} {a : Act} {w : World} {v : Value} (h : PureAt P o a w v) : kO P o a w (wD v w) := by
 unfold kO PureAt at *
 generalize (execOp a.eval o).run P w = r at *
 cases r with
 | ok n w' =>
  cases n <;> simp only [zZ] at h <;> simp only [GM]
  ·obtain ⟨rfl, rfl⟩ := h; exact ⟨rfl, Below.refl _ _⟩
  ·obtain ⟨rfl, rfl⟩ := h; exact ⟨rfl, Below.refl _ _⟩
 | halt x w' => simp only [zZ] at h
theorem qA {o : Oper} {t : Array Value} (h : o.guard = none) : Region.wanted o (yielded ops t) = true := by unfold Region.wanted; rw [h]
theorem AL (hC : ∃ w, C w) {p s : Nat} {T : List Nat} {op os : Oper} {tail : List Oper} {Q : Exit → Act → World → Prop} (hp : ops[p]? = some op) (hps : p ≠ s) (hsel : Region.noSelect ops = true) :
    ∀ (l : List (Nat × Oper)) (listed : Array Bool) (a : Act) (Vs : eW), (∀ q ∈ l, ops[q.1]? = some q.2) → (∀ t ∈ s :: T, ∀ q ∈ l, kN md ops ops.size t q.1 = true) → (∀ q ∈ l, q.1 ≠ s) → HeadInv md ops ops.size listed →
    MP md ops p s T (l.map (·.1)) listed = true → BB P md ops C Sp (MO P md ops Q C Sp p op os tail) l a Vs →
    zL P md ops C Sp s (fun listed' a' Vs' => zJ md ops (s :: T) listed' = true ∧ ∀ w, C w → Facts Sp Vs' w → LT P ops Q os tail a' w) (fun listed' a' Vs' => TU md ops p s T listed' = true ∧ MO P md ops Q C Sp p op os tail a' Vs') (l.length + 1) listed a Vs
  | [], listed, a, Vs, _, _, _, _, hB, h => by
    have hB0 := hB
    simp only [List.map_nil, MP, TU, Bool.and_eq_true] at hB
    obtain ⟨⟨⟨⟨h1, h2⟩, h3⟩, h4⟩, h5⟩ := hB
    have hr : p ∈ Region.ready md ops listed := by simpa using h2
    refine ⟨fun e => (by rw [e] at hr; cases hr), fun j hj => ⟨fun hjs => ?_, fun e => ⟨rfl, hB0, h⟩⟩⟩
    have hj2 := List.all_eq_true.1 h1 j hj
    simp only [Bool.or_eq_true, beq_iff_eq] at hj2
    have hjp : j = p := hj2.resolve_right hjs
    subst hjp
    obtain ⟨hg, v, hs, hpu, hn⟩ := h
    unfold gOp
    simp only [hp]
    rw [zZb (qA hg)]
    refine ⟨fun u => u = v, ?_, fun u hu => ?_⟩
    · unfold Ob; rw [hs]; exact ⟨rfl, fun w hc hF => KK (hpu w hc hF w)⟩
    · subst hu
      rw [hs]
      exact ⟨h4, hn⟩
  | (k, o) :: l, listed, a, Vs, hl, hT, hns, inv, hB, h => by
    have h0 : ops[k]? = some o := hl (k, o) (List.mem_cons_self ..)
    have hkn : k < ops.size := (Array.getElem?_eq_some_iff.1 h0).1
    simp only [List.map_cons, MP, Bool.and_eq_true] at hB
    obtain ⟨⟨hr, hf⟩, hB'⟩ := hB
    have hr' : k ∈ Region.ready md ops listed := by simpa using hr
    have hg : gOp P md ops C Sp k (BB P md ops C Sp (MO P md ops Q C Sp p op os tail) l) a Vs := by unfold gOp; simp only [h0]; exact h
    exact KJ hC h0 (Region.noSelect_spec hsel) (fun listed' a' Vs' hL => EF hL.1) (fun t ht => hT t ht (k, o) (List.mem_cons_self ..)) (List.mem_cons_self ..) (hns (k, o) (List.mem_cons_self ..)) (l.length + 1) listed a Vs inv (Region.free_spec h0 hf) hr'
      (lT (fun a' Vs' h' => AL hC hp hps hsel l _ a' Vs' (fun p hp => hl p (List.mem_cons_of_mem _ hp)) (fun t ht p hp => hT t ht p (List.mem_cons_of_mem _ hp)) (fun q hq => hns q (List.mem_cons_of_mem _ hq)) (inv.set hr' hkn) hB' h') hg)
theorem mS (hst : ∀ i v w w', kJ (Sp i) v w → Below w.heap.size w w' → kJ (Sp i) v w') (hCE : ∀ w w', C w → Below w.heap.size w w' → C w') {s g : Nat} {L E : Array Bool → Act → eW → Prop} {Q' : Exit → Act → World → Prop}
    (hL : ∀ listed a Vs w, C w → Facts Sp Vs w → L listed a Vs → wpAny P md ops Q' g listed a w)
    (hE : ∀ listed a Vs w, C w → Facts Sp Vs w → s ∈ Region.ready md ops listed → E listed a Vs → wpOp P ops Q' s (wpAny P md ops Q' g (listed.setIfInBounds s true)) a w) :
    ∀ (f : Nat) (listed : Array Bool) (a : Act) (Vs : eW) (w : World), C w → Facts Sp Vs w → zL P md ops C Sp s L E f listed a Vs → wpAny P md ops Q' (f + g) listed a w
  | 0, listed, a, Vs, w, hc, hF, h => by rw [Nat.zero_add]; exact hL _ _ _ _ hc hF h
  | f + 1, listed, a, Vs, w, hc, hF, h => by
    rw [show f + 1 + g = (f + g) + 1 by omega]
    refine ⟨fun h0 => absurd h0 h.1, fun i hi => ?_⟩
    by_cases his : i = s
    · subst his
      obtain ⟨hf0, he⟩ := (h.2 i hi).2 rfl
      subst hf0
      rw [Nat.zero_add]
      exact hE listed a Vs w hc hF hi he
    have hg := (h.2 i hi).1 his
    unfold gOp at hg
    unfold wpOp
    split
    · rename_i e
      simp only [e] at hg
      exact mS hst hCE hL hE f _ a Vs w hc hF hg
    · rename_i o e
      simp only [e] at hg
      split
      · rename_i hw
        rw [zZb hw] at hg
        obtain ⟨S, hS, hall⟩ := hg
        left
        unfold Ob at hS
        split at hS
        · rename_i es
          obtain ⟨v, rfl, hp⟩ := hS
          have hn := hall v rfl
          simp only [es, oK] at hn
          exact Oper.wp_of_pure (hp w hc) (mS hst hCE hL hE f _ _ Vs w hc hF hn)
        · rename_i v es
          obtain ⟨rfl, hp⟩ := hS
          have hn := hall v rfl
          simp only [es, oK] at hn
          refine Oper.wp_of_does (hp w hc fun i' v' _ hv => hF i' v' hv) fun u w' ⟨hu, hb⟩ => ?_
          subst hu
          exact mS hst hCE hL hE f _ _ Vs w' (hCE w w' hc hb) (fun i' v' hv => hst i' v' w w' (hF i' v' hv) hb) hn
        · rename_i R es
          obtain ⟨rfl, hp⟩ := hS
          refine Oper.wp_of_does (hp w hc fun i' v' _ hv => hF i' v' hv) fun u w' ⟨hu, hb⟩ => ?_
          have hn := hall u trivial
          refine mS hst hCE hL hE f _ _ _ w' (hCE w w' hc hb) (fun i' v' hv => ?_) hn
          simp only [es, oK] at hv
          unfold upd at hv
          split at hv
          · rename_i e'
            subst e'
            cases hv
            simp only [es, kJ]
            exact hu
          · exact hst i' v' w w' (hF i' v' hv) hb
      · rename_i hw
        rw [zZa hw] at hg
        exact mS hst hCE hL hE f _ _ Vs w hc hF hg
theorem KL {Q : Exit → Act → World → Prop} {os : Oper} {tail : List Oper} {a : Act} {w : World} (h : LT P ops Q os tail a w) : wpList P ops Q (os :: tail) a w := by
 obtain ⟨w', hg, hd, hr, hk⟩ := h.out
 unfold wpList
 rw [zZb (qA hg)]
 left
 refine Oper.wp_of_does (Φ := fun u w1 => u = undef ∧ w1 = w') (by unfold kO; rw [hr]; exact ⟨rfl, rfl⟩) fun u w1 ⟨hu, hw⟩ => ?_
 subst hu; subst hw
 rw [hd]
 exact hk
end
def ZE (md : Region.Mode) (ops : Array Oper) (hd : List Nat) (p s : Nat) (tl : List Nat) : Bool :=
  Region.noSelect ops && decide (hd.length + 2 + tl.length = ops.size) && MP md ops p s tl hd (Array.replicate ops.size false) && ((s :: tl).all fun t => hd.all fun i => kN md ops ops.size t i) && (hd.all fun i => i != s) && (p != s)
theorem EG {P : Program} {id : Nat} {Q : Exit → Act → World → Prop} {a : Act} {w : World} {l : List Oper} (hd : List Nat) (p s : Nat) (tl : List Nat) (op os : Oper) (Sp : Nat → OpSpec) (hm : P.follows .mixedOrders = true) (hB : ZE .any l.toArray hd p s tl = true)
    (e1 : (gB l hd).map (·.1) = hd) (e2 : (gB l tl).map (·.1) = tl) (e3 : l[p]? = some op) (e4 : l[s]? = some os)
    (hst : ∀ i v w w', kJ (Sp i) v w → Below w.heap.size w w' → kJ (Sp i) v w')
    (h : BB P .any l.toArray (fun w' => Below w.heap.size w w') Sp (MO P .any l.toArray Q (fun w' => Below w.heap.size w w') Sp p op os ((gB l tl).map (·.2))) (gB l hd) a (fun _ => none)) : (Code.region id l.toArray true).wp P Q a w := by
 simp only [ZE, Bool.and_eq_true, decide_eq_true_eq] at hB
 obtain ⟨⟨⟨⟨⟨hsel, hn⟩, hlex⟩, hanc⟩, hns⟩, hps⟩ := hB
 have hps : p ≠ s := by simpa using hps
 have hp : l.toArray[p]? = some op := by simpa using e3
 have hs : l.toArray[s]? = some os := by simpa using e4
 have inv0 : HeadInv .any l.toArray l.toArray.size (Array.replicate l.toArray.size false) :=
  ⟨by simp, fun j oj _ hl => (by rw [getD_replicate_false] at hl; cases hl), fun t h1 h2 => by omega⟩
 have mem : ∀ q ∈ gB l hd, q.1 ∈ hd := fun q hq => by rw [← e1]; exact List.mem_map.2 ⟨q, hq, rfl⟩
 have H := AL (md := .any) (T := tl) (Q := Q) ⟨w, Below.refl _ _⟩ hp hps hsel (gB l hd) _ a _ (fun p hp => pD hp) (fun t ht p hp => by
  have h1 := List.all_eq_true.1 hanc t ht
  exact List.all_eq_true.1 h1 p.1 (mem p hp)) (fun q hq => by have := List.all_eq_true.1 hns q.1 (mem q hq); simpa using this) inv0 (by rw [e1]; exact hlex) h
 refine wp_region_any hm ?_
 have hlh : (gB l hd).length = hd.length := by have := congrArg List.length e1; simpa using this
 have hlt : (gB l tl).length = tl.length := by have := congrArg List.length e2; simpa using this
 have := mS (Q' := Q) (g := (gB l tl).length + 1) hst (fun w1 w2 h1 h2 => h1.trans (h2.mono h1.size)) (fun listed a' Vs w' hC hF hL => by
   have := nA (md := .any) (Q' := Q) ((s, os) :: gB l tl) listed a' w' (fun p hp => by rcases List.mem_cons.1 hp with rfl | hp; exact hs; exact pD hp) (by rw [List.map_cons, e2]; exact hL.1) (KL (hL.2 w' hC hF))
   simpa using this) (fun listed a' Vs w' hC hF hsr hE => by
   obtain ⟨hB, hg, v, hsp, hpu, hn'⟩ := hE
   simp only [TU, Bool.and_eq_true] at hB
   obtain ⟨⟨⟨⟨h1, h2⟩, h3⟩, h4⟩, h5⟩ := hB
   have hrp : p ∈ Region.ready .any l.toArray listed := by simpa using h2
   have hunp := (mem_ready.1 hrp).1
   obtain ⟨hsun, os', hos', hall⟩ := mem_ready.1 hsr
   have hoe : os' = os := Option.some.inj (hos'.symm.trans hs)
   subst hoe
   have hap := Region.free_spec hp h3 s os' hos' (Ne.symm hps) hsun (fun e he hb heq => by
    have h1 := hall e he hb
    rw [heq, getD_both hunp] at h1
    cases h1)
   obtain ⟨w1, q1, q2, q3, q4⟩ := (hn' w' hC hF).out
   rw [execOp_put os' (fun cs b => Region.noSelect_spec hsel s os' cs b hos') a' op.dst v (Oper.apart_spec hap).1] at q3
   unfold wpOp
   simp only [hos']
   rw [zZb (qA q1)]
   left
   refine Oper.wp_of_does (Φ := fun u w2 => u = undef ∧ w2 = w1) (by unfold kO; rw [q3]; exact ⟨rfl, rfl⟩) fun u w2 ⟨hu, hw⟩ => ?_
   subst hu; subst hw
   rw [q2]
   have h5' := h5
   simp only [zJ, Bool.and_eq_true, decide_eq_true_eq] at h5'
   refine ⟨fun e => (by rw [h5'.1] at e; cases e), fun i hi => ?_⟩
   rw [h5'.1] at hi
   have hip : i = p := by simpa using hi
   subst hip
   unfold wpOp
   simp only [hp]
   rw [zZb (qA hg)]
   left
   exact Oper.wp_of_pure (hpu w' hC (fun i' v' _ hv => hF i' v' hv) w2) (nA (md := .any) (Q' := Q) (gB l tl) _ _ _ (fun p hp => pD hp) (by rw [e2]; exact h5'.2) q4)) _ _ _ _ ({ w with drawn := w.drawn + 1 } : World) (Below.refl w.heap.size w).drew (fun i v h => by cases h) H
 rw [hlh, hlt, show hd.length + 1 + (tl.length + 1) = hd.length + 2 + tl.length by omega, hn] at this
 exact this
section
variable {P : Program} {ops : Array Oper} {md : Region.Mode} {C : World → Prop} {Sp : Nat → OpSpec}
def Fv (P : Program) (md : Region.Mode) (ops : Array Oper) (Q : Exit → Act → World → Prop) (C : World → Prop) (Sp : Nat → OpSpec) (p : Nat) (op os : Oper) (tail : List Oper) (a : Act) (Vs : eW) : Prop := MO P md ops Q C Sp p op os tail a Vs
theorem HS {p : Nat} {op os : Oper} {tail : List Oper} {Q : Exit → Act → World → Prop} {a : Act} {Vs : eW} (hg : op.guard = none) {v : Value} (hs : Sp p = .const v) (h : ∀ w, C w → FactsAt md ops Sp p Vs w → ∀ w1, PureAt P op a w1 v)
    (hn : ∀ w, C w → Facts Sp Vs w → LT P ops Q os tail (a.put op.dst v) w) : Fv P md ops Q C Sp p op os tail a Vs := ⟨hg, v, hs, h, hn⟩
end
theorem lO {P : Program} {id : Nat} {Q : Exit → Act → World → Prop} {a : Act} {W : World} {l : List Oper} (F : Fz) (hd : List Nat) (p s : Nat) (tl : List Nat) (L : List (Nat × Mark)) (hm : P.follows .mixedOrders = true) (hB : ZE .any l.toArray hd p s tl = true) (e1 : (gB l hd).map (·.1) = hd) (e2 : (gB l tl).map (·.1) = tl)
    {op os : Oper} (e3 : l[p]? = some op) (e4 : l[s]? = some os)
    (h : GP P .any l.toArray (fun w' => Below W.heap.size W w') (gQ W F L) (Fv P .any l.toArray Q (fun w' => Below W.heap.size W w') (gQ W F L) p op os ((gB l tl).map (·.2))) (gB l hd) a (fun _ => none)) : (Code.region id l.toArray true).wp P Q a W :=
  EG hd p s tl op os (gQ W F L) hm hB e1 e2 e3 e4 vT h.out
theorem zM {P : Program} {w0 w : World} {F0 F : Fz} {L : List Blk} {M : List RowP} {ops : Array Oper} {Q : Exit → Act → World → Prop} {a : Act} {rest : List Oper} {t T T' : TypeId} {x y : Operand} {pos : String} {after : Array Edge} {i n j : Nat} {c : List Value} {v : Value} (S : St w0 F0 w F L M)
    (hx : a.eval x = .pointer (some ⟨n, j, none⟩)) (hy : a.eval y = v) (hL : L[i]? = some ⟨n, c, T'⟩)
    (hi : (P.info? T).map (·.size) = some v.cells.size) (h1 : v.cells.all (·.oneCell') = true) (hl : j + v.cells.size ≤ c.length)
    (h : ∀ w', St w0 F0 w' F (L.set i ⟨n, cK c j v.cells.toList, T'⟩) M → WL P ops Q rest a w') : LT P ops Q ⟨none, .store T x y, t, pos, after, none⟩ rest a w := by
 have hs := IX (P := P) (T := T) (v := v) hi (S.there hL j v.cells.size hl) h1
 exact ⟨⟨_, rfl, rfl, xO hx (by rw [hy]; exact hs), (h _ (S.store hL j v.cells.toList (by simpa using hl))).out⟩⟩
theorem Sl.dropF {α : Type} {k : Nat} {R : Fz → List Value → α → Prop} {w : World} {F : Fz} {n : Nat} {cs : List Value} {T : TypeId} (hs : Sat w F) (hb : w.heap[n]? = some (.cells cs.toArray T (0, 0))) (hR : ∀ c p, R F c p → R (Proofs.YtilgpdpooildcaaGreatDoor.dropF F n) c p) (hx : ∀ (c : List Value) p, R F c p → ∃ (j : Nat) (u : Value), c[j]? = some u ∧ u ∉ cs) {v : Value} {l : List α} (h : Sl k R F v l) : Sl k R (Proofs.YtilgpdpooildcaaGreatDoor.dropF F n) v l := by
 obtain ⟨xs, ⟨a, c, h1, h2, h3, h4, h5⟩, hr, hk⟩ := h
 refine ⟨xs, ⟨a, c, h1, h2, h3, h4, ?_⟩, hr.imp hR, hk⟩
 rcases h5 with h5 | ⟨b, o, e, h6⟩
 exact .inl h5
 by_cases hbn : b = n
 cases xs with
 | nil => exact .inl rfl
 | cons x xs =>
  exfalso
  cases l with
  | nil => exact hr
  | cons p l =>
   obtain ⟨j, u, hj, hu⟩ := hx _ _ hr.1
   have h0 := h6 j u (by
    rw [List.flatten_cons, List.getElem?_append_left (List.getElem?_eq_some_iff.1 hj).1]
    exact hj)
   subst hbn
   unfold cS at h0
   split at h0
   rename_i c0 t0 fr0 hF
   have := hs _ _ hF
   rw [hb] at this
   cases this
   have hm : u ∈ cs := by
    have : cs[o + j]? = some u := by simpa using h0
    exact zZi this
   exact hu hm
   cases h0
 refine .inr ⟨b, o, e, fun j u hu => ?_⟩
 have h0 := h6 j u hu
 unfold cS Proofs.YtilgpdpooildcaaGreatDoor.dropF at *
 rw [zZa hbn]
 exact h0
section
variable {w : World} {F : Fz} {n : Nat} {cs : List Value} {T : TypeId}
theorem Rds.dropF (hs : Sat w F) (hb : w.heap[n]? = some (.cells cs.toArray T (0, 0))) (hc : ∀ u ∈ cs, ∀ x, u ≠ bv x) (hc2 : ∀ b, Value.bool b ∉ cs) {v : Value} {l : List Rd} (h : Rds F v l) : Rds (Proofs.YtilgpdpooildcaaGreatDoor.dropF F n) v l :=
  Sl.dropF hs hb (RdC.dropF hs hb hc) (fun c p ⟨a0, a1, a2, a3, e, _, _, e2, _⟩ => ⟨2, a2, by rw [e]; rfl, by rw [e2]; exact hc2 _⟩) h
theorem Wrs.dropF (hs : Sat w F) (hb : w.heap[n]? = some (.cells cs.toArray T (0, 0))) (hc : ∀ u ∈ cs, ∀ x, u ≠ bv x) (hc2 : ∀ b, Value.bool b ∉ cs) {v : Value} {l : List Wr} (h : Wrs F v l) : Wrs (Proofs.YtilgpdpooildcaaGreatDoor.dropF F n) v l :=
  Sl.dropF hs hb (WrC.dropF hs hb hc) (fun c p ⟨a0, a1, a2, a3, e, _, _, e2, _⟩ => ⟨2, a2, by rw [e]; rfl, by rw [e2]; exact hc2 _⟩) h
end
structure HL (P : Program) (ops : Array Oper) (Q : Exit → Act → World → Prop) (F : Fz) (fuel : Nat) (listed : Array Bool) (a : Act) (w : World) : Prop where
  out : Go.wpAnyH P .any ops Q (fun w => Sat w F) fuel listed a w
section
variable {P : Program} {ops : Array Oper} {Q : Exit → Act → World → Prop} {F : Fz} {fuel : Nat} {listed : Array Bool} {a : Act} {w : World} {o : Oper}
theorem gC {id : Nat} {l : List Oper} {w0 : World} {F0 : Fz} {L : List Blk} {M : List RowP} (S : St w0 F0 w F L M) (hm : P.follows .mixedOrders = true) (h : ∀ w', St w0 F0 w' F L M → HL P l.toArray Q F l.length (Array.replicate l.length false) a w') : (Code.region id l.toArray true).wp P Q a w := by
 have := (h { w with drawn := w.drawn + 1 } (S.tells (Below.refl w.heap.size w).drew)).out
 refine wp_region_held (S := fun w => Sat w F) hm ?_
 simpa using this
def kF (ops : Array Oper) (listed : Array Bool) (i : Nat) : Bool := Region.noSelect ops && Region.free .any ops listed i && (Region.ready .any ops listed).contains i
theorem CB {l : List Oper} (i : Nat) (hi : l[i]? = some o) (hc : kF l.toArray listed i = true) {v : Value} (hQ : ∀ c a w, Q (.panic c) (a.put o.dst v) w → Q (.panic c) a w) (hS : Sat w F) (hw : Region.wanted o (yielded l.toArray a.tmps) = true)
    (hr : ∀ w1, Sat w1 F → (execOp a.eval o).run P w1 = .ok (.value v) w1) (h : HL P l.toArray Q F fuel (listed.setIfInBounds i true) (a.put o.dst v) w) : HL P l.toArray Q F (fuel + 1) listed a w := by
 simp only [kF, Bool.and_eq_true] at hc
 exact ⟨Go.wpAnyH_take (by simpa using hi) hc.1.1 hc.1.2 hc.2 hQ (.inl ⟨hw, hr⟩) hS h.out⟩
theorem Oper.wp_exit {K K' : Act → World → Prop} (hh : o.wp P a w K (Exit.then K' Q)) : o.wp P a w K Q := by
 unfold Oper.wp at *
 generalize (execOp a.eval o).run P w = r at *
 cases r with
 | ok n w' =>
  cases n <;> simp only [Oper.upon] at hh ⊢ <;> try exact hh
 | halt x w' => cases x <;> exact hh
theorem cW {l : List Oper} (i : Nat) (hr : Region.ready .any l.toArray listed = [i]) (hi : l[i]? = some o) (h : WL P l.toArray (Exit.then (fun a' w' => Sat w' F ∧ Go.wpAnyH P .any l.toArray Q (fun w => Sat w F) fuel (listed.setIfInBounds i true) a' w') Q) [o] a w) : HL P l.toArray Q F (fuel + 1) listed a w := by
 refine ⟨Go.wpAnyH_all hr (by simp) fun j hj => ?_⟩
 have hji : j = i := by simpa using hj
 subst hji
 have h1 := h.out
 unfold wpList at h1
 unfold wpOp
 have hi' : l.toArray[j]? = some o := by simpa using hi
 simp only [hi']
 split
 rename_i hw
 rw [zZb hw] at h1
 rcases h1 with h1 | h1
 left
 refine Oper.wp_mono (fun a' w' hk => ?_) (Oper.wp_exit h1)
 exact hk
 exact .inr h1
 rename_i hw
 rw [zZa hw] at h1
 exact h1
theorem cA (hS : Sat w F) (h : HL P ops Q F fuel listed a w) : Exit.then (fun a' w' => Sat w' F ∧ Go.wpAnyH P .any ops Q (fun w => Sat w F) fuel listed a' w') Q .normal a w := ⟨hS, h.out⟩
theorem gX (hr : Region.ready .any ops listed = []) (h : Q .normal a w) : HL P ops Q F fuel listed a w := ⟨Go.wpAnyH_done hr h _⟩
end
section
variable {P : Program} {Q : Exit → Act → World → Prop} {F : Fz} {fuel : Nat} {listed : Array Bool} {a : Act} {w : World} {o : Oper} {l : List Oper} {d : Option Tmp} {t : TypeId} {pos : String} {after : Array Edge} {guard : Option (Nat × Bool)} {x : Operand} {v : Value} {p : Addr} {n : Nat} {vs : Array Value}
theorem bW (i : Nat) (hi : l[i]? = some o) (v : Value) (hS : Sat w F) (hr : ∀ w1, Sat w1 F → (execOp a.eval o).run P w1 = .ok (.value v) w1) (h : HL P l.toArray Q F fuel (listed.setIfInBounds i true) (a.put o.dst v) w) (hc : kF l.toArray listed i = true := by kernel_rfl) (hQ : ∀ c a w, Q (.panic c) (a.put o.dst v) w → Q (.panic c) a w := by exact fun _ _ _ h => h) (hw : Region.wanted o (yielded l.toArray a.tmps) = true := by exact rfl) : HL P l.toArray Q F (fuel + 1) listed a w := CB i hi hc hQ hS hw hr h
theorem dN (i : Nat) (hi : l[i]? = some ⟨d, .move x, t, pos, after, guard⟩) (hS : Sat w F) (h : HL P l.toArray Q F fuel (listed.setIfInBounds i true) (a.put d v) w) (hx : ev a x = some v := by exact rfl) (hc : kF l.toArray listed i = true := by kernel_rfl) (hQ : ∀ c a w, Q (.panic c) (a.put d v) w → Q (.panic c) a w := by exact fun _ _ _ h => h) (hw : Region.wanted ⟨d, .move x, t, pos, after, guard⟩ (yielded l.toArray a.tmps) = true := by exact rfl) : HL P l.toArray Q F (fuel + 1) listed a w := CB i hi hc hQ hS hw (fun w _ => dP hx ▸ fR _) h
theorem eU (i : Nat) (hi : l[i]? = some ⟨d, .assign x, t, pos, after, guard⟩) (hS : Sat w F) (h : HL P l.toArray Q F fuel (listed.setIfInBounds i true) (a.put d v) w) (hx : ev a x = some v := by exact rfl) (hc : kF l.toArray listed i = true := by kernel_rfl) (hQ : ∀ c a w, Q (.panic c) (a.put d v) w → Q (.panic c) a w := by exact fun _ _ _ h => h) (hw : Region.wanted ⟨d, .assign x, t, pos, after, guard⟩ (yielded l.toArray a.tmps) = true := by exact rfl) : HL P l.toArray Q F (fuel + 1) listed a w := CB i hi hc hQ hS hw (fun w _ => dP hx ▸ qV _) h
theorem HT (i : Nat) (hi : l[i]? = some ⟨d, .nilCheck x, t, pos, after, guard⟩) (hS : Sat w F) (h : HL P l.toArray Q F fuel (listed.setIfInBounds i true) (a.put d (.pointer (some p))) w) (hx : ev a x = some (.pointer (some p)) := by exact rfl) (hc : kF l.toArray listed i = true := by kernel_rfl) (hQ : ∀ c a w, Q (.panic c) (a.put d (.pointer (some p))) w → Q (.panic c) a w := by exact fun _ _ _ h => h) (hw : Region.wanted ⟨d, .nilCheck x, t, pos, after, guard⟩ (yielded l.toArray a.tmps) = true := by exact rfl) : HL P l.toArray Q F (fuel + 1) listed a w := CB i hi hc hQ hS hw (fun w _ => mP (dP hx)) h
end
def ByC (F : Fz) (cs : List Value) (b : UInt8) : Prop := cs = [bv b]
theorem ByC.mono (F F' : Fz) (x : List Value) (p : UInt8) (hl : Le F F') (h : ByC F x p) : ByC F' x p := h
theorem sH (b : UInt8) : ∀ u ∈ [bv b], u.oneCell' = true := by intro u hu; rw [List.mem_singleton.1 hu]; rfl
theorem ByC.one (F : Fz) (cs : List Value) (p : UInt8) (h : ByC F cs p) : ∀ u ∈ cs, u.oneCell' = true := by rw [h]; exact sH p
theorem sI : ∀ l : By, ((l.map fun b => [bv b]).flatten) = l.map bv
  | [] => rfl
  | b :: l => by simp [sI l]
theorem sJ (F : Fz) : ∀ l : By, AllR (ByC F) (l.map fun b => [bv b]) l
  | [] => trivial
  | _ :: l => ⟨rfl, sJ F l⟩
theorem MQ : ∀ {xs : List (List Value)} {l : By} {F : Fz}, AllR (ByC F) xs l → xs.flatten = l.map bv
  | [], [], _, _ => rfl
  | x :: xs, b :: l, F, h => by rw [List.flatten_cons, h.1, MQ h.2]; rfl
theorem Bs.sl {F : Fz} {v : Value} {l : By} (h : Bs F v l) : Sl 1 ByC F v l := ⟨l.map fun b => [bv b], by rw [sI]; exact h, sJ F l, by simp⟩
theorem eF {F : Fz} {v : Value} {l : By} (h : Sl 1 ByC F v l) : Bs F v l := by
 obtain ⟨xs, h1, h2, _⟩ := h
 rw [MQ h2] at h1
 exact h1
theorem iZ (z : Nat) (w : World) : (convert 3 5 (.int .i64 (z : Nat))).run Tryz.prog w = .ok (bv (b8 z)) w := by
 have : (convert 3 5 (.int .i64 (z : Nat))).run Tryz.prog w = .ok (.int .u8 (IntKind.u8.wrap (z : Int))) w := by kernel_rfl
 rw [this]
 have e : IntKind.u8.wrap (z : Int) = ((b8 z).toNat : Int) := by
  rw [show IntKind.u8.wrap (z : Int) = (z : Int) % 256 from rfl]
  simp [b8]
 rw [e]; rfl
theorem jF (b : UInt8) (w : World) : (convert 5 3 (bv b)).run Tryz.prog w = .ok (.int .i64 ((b.toNat : Nat) : Int)) w := by
 have : (convert 5 3 (bv b)).run Tryz.prog w = .ok (.int .i64 (IntKind.i64.wrap (b.toNat : Int))) w := by kernel_rfl
 rw [this, kD (by omega) (by have := UInt8.toNat_lt b; omega)]
theorem CC {P : Program} {ρ : Operand → Value} {w : World} {d : Option Tmp} {t X Y : TypeId} {x y : Operand} {pos : String} {after : Array Edge} {guard : Option (Nat × Bool)} {m n : Nat} (hx : ρ x = .int .i64 (m : Int)) (hy : ρ y = .int .u64 (n : Int)) (hn : n ≤ 64) : (execOp ρ ⟨d, .binOp .shr X x y Y, t, pos, after, guard⟩).run P w = .ok (.value (.int .i64 ((m / 2 ^ n : Nat) : Int))) w := by
 have e : (eqGuard .shr X x y (.int .i64 (m : Int)) (.int .u64 (n : Int))).run P w = .ok () w := rfl
 have h : (binOp .shr X (.int .i64 (m : Int)) (.int .u64 (n : Int))).run P w = .ok (.int .i64 ((m / 2 ^ n : Nat) : Int)) w := by
  show (Op.shift .shr .i64 (m : Int) .u64 (n : Int)).run P w = _
  unfold Op.shift
  rw [zZa (by omega)]
  show Result.ok (Value.int .i64 (Int.fdiv (m : Int) (2 ^ (min (n : Int).toNat 64)))) w = _
  rw [Int.toNat_natCast, Nat.min_eq_left hn, Int.fdiv_eq_ediv_of_nonneg _ (show (0 : Int) ≤ 2 ^ n from Int.le_of_lt (Int.pow_pos (by decide)))]
  simp
 simp only [execOp, hx, hy, Sem.run_bind, e, Result.andThen_ok, h, Sem.run_pure]
theorem Bs.get {F : Fz} {a : Option Addr} {n c : Nat} {l : By} (h : Bs F (.slice a n c) l) {i : Nat} {b : UInt8} (hb : l[i]? = some b) : ∃ g o, a = some ⟨g, o, none⟩ ∧ cS F g (o + i * 1) = some (bv b) := by
 obtain ⟨a', c', e, _, _, _, h5⟩ := h
 injection e with e1 _ _
 subst e1
 rcases h5 with h5 | ⟨g, o, e, h6⟩
 ·rw [List.map_eq_nil_iff] at h5
  subst h5; cases hb
 ·exact ⟨g, o, e, by rw [Nat.mul_one]; exact h6 i (bv b) (by rw [List.getElem?_map, hb]; rfl)⟩
theorem St.front {w0 w : World} {F0 F : Fz} {L : List Blk} {M : List RowP} (S : St w0 F0 w F L M) {i : Nat} {b : Blk} (h : L[i]? = some b) : St w0 F0 w F (b :: L.eraseIdx i) M := by
 obtain ⟨hi, rfl⟩ := List.getElem?_eq_some_iff.1 h
 have hp : (L[i] :: L.eraseIdx i).Perm L := by
  have h1 : L.take i ++ L[i] :: L.drop (i + 1) = L := by rw [← List.drop_eq_getElem_cons hi, List.take_append_drop]
  rw [List.eraseIdx_eq_take_drop_succ]
  exact List.perm_middle.symm.trans (List.Perm.of_eq h1)
 exact ⟨S.gr, fun x hx => S.blk x (hp.mem_iff.1 hx), S.row, (hp.pairwise_iff (fun h => Ne.symm h)).2 S.bb, fun r hr x hx => S.rb r hr x (hp.mem_iff.1 hx), S.rr⟩
abbrev Bys (F : Fz) (v : Value) (l : By) : Prop := Sl 1 ByC F v l
end Go.Proofs.YtilgpdpooildcaaGreatDoor
