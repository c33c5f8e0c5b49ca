/- Rules, plain laws and walks: SV10 SV11 P17 SV12 TW SV13 P21 IN P22 S11 SV14 SV15 SV16 SV17 SV18 SV19 -/
import Derived.Test.YtilgpdpooildcaaGreatDoorEA12
namespace Go.Proofs.YtilgpdpooildcaaGreatDoor
set_option maxHeartbeats 8000000
open Go.RowKit
set_option maxRecDepth 100000
set_option linter.unusedVariables false
set_option linter.unusedSimpArgs false
def AcC (F : Fz) (cs : List Value) (a : Ac) : Prop := ∃ x, cs = [.int .i64 ((a.kind : Nat) : Int), .int .i64 ((a.sess : Nat) : Int), .int .i64 ((a.keep : Nat) : Int), x] ∧ Bs F x a.data
theorem AcC.mono (F F' : Fz) (x : List Value) (p : Ac) (hl : Le F F') (h : AcC F x p) : AcC F' x p := by
 obtain ⟨v, e, h⟩ := h; exact ⟨v, e, h.mono hl⟩
theorem AcC.oneCell {F : Fz} {cs : List Value} {p : Ac} (h : AcC F cs p) : ∀ u ∈ cs, u.oneCell' = true := by
 obtain ⟨v, rfl, h⟩ := h
 intro u hu
 simp only [zZk, List.not_mem_nil, or_false] at hu
 rcases hu with rfl | rfl | rfl | rfl
 ·rfl
 ·rfl
 ·rfl
 ·exact h.oneCell
abbrev Acs (F : Fz) (v : Value) (l : List Ac) : Prop := Sl 4 AcC F v l
theorem Acs.mono {F F' : Fz} {v : Value} {l : List Ac} (h : Acs F v l) (hl : Le F F') : Acs F' v l := Sl.mono AcC.mono h hl
theorem Bh : (madeCells (Value.slice none 0 0).cells (1 * 1)).toList = [Value.slice none 0 0] := by
 rw [show (Value.slice none 0 0).cells = #[.slice none 0 0] from rfl, toList_madeCells_one]; rfl
theorem Acs.get {F : Fz} {a : Option Addr} {n c : Nat} {l : List Ac} (h : Acs F (.slice a n c) l) {i : Nat} {p : Ac} (hp : l[i]? = some p) :
    ∃ b o, a = some ⟨b, o, none⟩ ∧ ∃ x y, cS F b (o + i * 4) = some (.int .i64 ((p.kind : Nat) : Int)) ∧ cS F b (o + i * 4 + 1) = some (.int .i64 ((p.sess : Nat) : Int)) ∧ cS F b (o + i * 4 + 2) = some (.int .i64 ((p.keep : Nat) : Int)) ∧ cS F b (o + i * 4 + 3) = some (.slice x p.data.length y) ∧ Bs F (.slice x p.data.length y) p.data := by
 obtain ⟨hi, rfl⟩ := List.getElem?_eq_some_iff.1 hp
 have hn := Sl.len h
 obtain ⟨b, o, e, h1⟩ := Sl.at h (by omega) (by omega)
 obtain ⟨cs, q1, ⟨a0, rfl, h0⟩, q3⟩ := h1 i hi
 obtain ⟨x, y, rfl, _⟩ := h0.shape
 exact ⟨b, o, e, x, y, by have := q3 0 (by simp); simpa [Nat.add_assoc] using this, by have := q3 1 (by simp); simpa [Nat.add_assoc] using this, by have := q3 2 (by simp); simpa [Nat.add_assoc] using this, by have := q3 3 (by simp); simpa [Nat.add_assoc] using this, h0⟩
def zW : Prop := ∀ (w0 : World) (F0 : Fz) (w : World) (F : Fz) (n : Nat) (g : Eng) (L : List Blk) {m : Nat} (k : Nat), EngM w0 F0 w F n g L → Tabs w0 → EngOk m g → m ≤ 149 → k ≤ 100000 →
    Calls Tryz.prog 70 #[.pointer (some ⟨n, 0, none⟩), .int .i64 ((k : Nat) : Int)] w (wV w0 F0 F n (g.crash k) L)
theorem XE (w0 : World) (F0 : Fz) (w : World) (F : Fz) (n : Nat) (g : Eng) (L : List Blk) {m : Nat} (hM : EngM w0 F0 w F n g L) (hh : Has w0) (hT : Tabs w0) (hg : EngOk m g) (hm : m ≤ 149) (hq : g.replies.length + g.waiting.length ≤ 100000) (s : Nat) (hs8 : s < 8) (b : By) {u : Value} (hu : Bs F u b) (hP : wdE b = 0 → (wdR b).1 = 8 → wW) :
    Calls Tryz.prog 52 #[.pointer (some ⟨n, 0, none⟩), .agg #[.int .i64 1, .int .i64 ((s : Nat) : Int), .int .i64 0, u]] w (wV w0 F0 F n (g.ask s b) L) := by
 obtain ⟨da, dc, rfl, _⟩ := hu.shape
 obtain ⟨ad, cd, ac, cc, af, cf, aw, cw, ar, cr, pv, S, hd, ht⟩ := hM
 go_enter Tryz.func52, Tryz.ntmps52
 refine sk fun K4 hK4 => ?_
 refine bH S (v := fun n => .pointer (aA n 0)) rfl (bX (v := (.agg #[(iI 1), (nI s), (iI 0), (.slice da b.length dc)])) rfl) (fun n5 w6 S7 => ?_)
 refine wn hK4 ?_
 refine sk fun K8 hK8 => ?_
 refine aC ?_
 refine wn hK8 ?_
 refine aN ?_
 refine sk fun K9 hK9 => ?_
 refine dr bT (dH (b := true) rfl rfl (by decide)) ?_
 refine dy ?_
 simp only [pq]
 refine wn hK9 ?_
 refine aI ?_
 refine aB ?_
 refine aC ?_
 have a6 := St.perm S7 (List.perm_middle (l₁ := [_]))
 have a0 : EngM _ _ _ _ n g _ := ⟨_, _, _, _, _, _, _, _, _, _, _, a6, hd, ht⟩
 refine doC rfl (fn3 (Hc _ _)) (Fb _ _ _ _ _ _ _ s hs8 _ b a0 hh hT hg hm hu hP (by omega)) ?_
 rintro _ c0 ⟨rfl, c1, a1, a2⟩
 refine ⟨_, rfl, ?_⟩
 obtain ⟨a7, a8, a9, b0, b1, b2, b3, b4, b5, b6, b7, b9, a3, a4⟩ := a2
 refine aG ?_
 try simp only [xt]
 refine bE (iV rfl) ?_
 have a5 : EngM _ _ _ _ n (g.ask s b) _ := ⟨_, _, _, _, _, _, _, _, _, _, _, b9, a3, a4⟩
 exact ⟨rfl, _, a1, (a5.drop (.cons _ (zZd _)))⟩
theorem RV (w0 : World) (F0 : Fz) (w : World) (F : Fz) (n : Nat) (g : Eng) (L : List Blk) {m : Nat} (hM : EngM w0 F0 w F n g L) (hh : Has w0) (hT : Tabs w0) (hg : EngOk m g) (hm : m ≤ 149) (hq : g.replies.length + g.waiting.length ≤ 100000) (u : Value) :
    Calls Tryz.prog 52 #[.pointer (some ⟨n, 0, none⟩), .agg #[.int .i64 2, .int .i64 0, .int .i64 0, u]] w (wV w0 F0 F n g.sync L) := by
 obtain ⟨ad, cd, ac, cc, af, cf, aw, cw, ar, cr, pv, S, hd, ht⟩ := hM
 go_enter Tryz.func52, Tryz.ntmps52
 refine sk fun K4 hK4 => ?_
 refine bH S (v := fun n => .pointer (aA n 0)) rfl (bX (v := (.agg #[(iI 2), (iI 0), (iI 0), u])) rfl) (fun n5 w6 S7 => ?_)
 refine wn hK4 ?_
 refine sk fun K8 hK8 => ?_
 refine aC ?_
 refine wn hK8 ?_
 refine aN ?_
 refine sk fun K9 hK9 => ?_
 refine dr bF (dH (b := false) rfl rfl (by decide)) ?_
 refine dy ?_
 simp only [pq]
 refine wn hK9 ?_
 refine aF ?_
 refine sk fun c1 a0 => ?_
 refine dr bT (dH (b := true) rfl rfl (by decide)) ?_
 refine dy ?_
 refine wn a0 ?_
 refine aI ?_
 refine aB ?_
 refine dx ?_
 simp only [pq]
 have a7 := St.perm S7 (List.perm_middle (l₁ := [_]))
 have a1 : EngM _ _ _ _ n g _ := ⟨_, _, _, _, _, _, _, _, _, _, _, a7, hd, ht⟩
 refine doC rfl (fn1 (Hd _ _)) (Bd _ _ _ _ _ _ _ a1 hg hm hq) ?_
 rintro _ c2 ⟨rfl, c3, a2, a3⟩
 refine ⟨_, rfl, ?_⟩
 obtain ⟨a8, a9, b0, b1, b2, b3, b4, b5, b6, b7, b9, c0, a4, a5⟩ := a3
 refine aG ?_
 try simp only [xt]
 refine bE (iV rfl) ?_
 have a6 : EngM _ _ _ _ n g.sync _ := ⟨_, _, _, _, _, _, _, _, _, _, _, c0, a4, a5⟩
 exact ⟨rfl, _, a2, (a6.drop (.cons _ (zZd _)))⟩
theorem OO (w0 : World) (F0 : Fz) (w : World) (F : Fz) (n : Nat) (g : Eng) (L : List Blk) {m : Nat} (hM : EngM w0 F0 w F n g L) (hh : Has w0) (hT : Tabs w0) (hg : EngOk m g) (hm : m ≤ 149) (hq : g.replies.length + g.waiting.length ≤ 100000) (u : Value) (k : Nat) (hk : k ≤ 100000) (hC : zW) :
    Calls Tryz.prog 52 #[.pointer (some ⟨n, 0, none⟩), .agg #[.int .i64 3, .int .i64 0, .int .i64 ((k : Nat) : Int), u]] w (wV w0 F0 F n (g.crash k) L) := by
 obtain ⟨ad, cd, ac, cc, af, cf, aw, cw, ar, cr, pv, S, hd, ht⟩ := hM
 go_enter Tryz.func52, Tryz.ntmps52
 refine sk fun K4 hK4 => ?_
 refine bH S (v := fun n => .pointer (aA n 0)) rfl (bX (v := (.agg #[(iI 3), (iI 0), (nI k), u])) rfl) (fun n5 w6 S7 => ?_)
 refine wn hK4 ?_
 refine sk fun K8 hK8 => ?_
 refine aC ?_
 refine wn hK8 ?_
 refine aN ?_
 refine sk fun K9 hK9 => ?_
 refine dr bF (dH (b := false) rfl rfl (by decide)) ?_
 refine dy ?_
 simp only [pq]
 refine wn hK9 ?_
 refine aF ?_
 refine sk fun c2 a0 => ?_
 refine dr bF (dH (b := false) rfl rfl (by decide)) ?_
 refine dy ?_
 refine wn a0 ?_
 refine aF ?_
 refine sk fun c3 a1 => ?_
 refine dr bT (dH (b := true) rfl rfl (by decide)) ?_
 refine dy ?_
 simp only [pq]
 refine wn a1 ?_
 refine aI ?_
 refine aB ?_
 refine aC ?_
 have a8 := St.perm S7 (List.perm_middle (l₁ := [_]))
 have a2 : EngM _ _ _ _ n g _ := ⟨_, _, _, _, _, _, _, _, _, _, _, a8, hd, ht⟩
 refine doC rfl (fn2 (He _ _)) (hC _ _ _ _ _ _ _ k a2 hT hg hm hk) ?_
 rintro _ c4 ⟨rfl, c5, a3, a4⟩
 refine ⟨_, rfl, ?_⟩
 obtain ⟨a9, b0, b1, b2, b3, b4, b5, b6, b7, b9, c0, c1, a5, a6⟩ := a4
 refine aG ?_
 try simp only [xt]
 refine bE (iV rfl) ?_
 have a7 : EngM _ _ _ _ n (g.crash k) _ := ⟨_, _, _, _, _, _, _, _, _, _, _, c1, a5, a6⟩
 exact ⟨rfl, _, a3, (a7.drop (.cons _ (zZd _)))⟩
theorem OP (w0 : World) (F0 : Fz) (w : World) (F : Fz) (n : Nat) (g : Eng) (L : List Blk) {m : Nat} (hM : EngM w0 F0 w F n g L) (hh : Has w0) (hT : Tabs w0) (hg : EngOk m g) (hm : m ≤ 149) (hq : g.replies.length + g.waiting.length ≤ 100000) (u : Value) :
    Calls Tryz.prog 52 #[.pointer (some ⟨n, 0, none⟩), .agg #[.int .i64 4, .int .i64 0, .int .i64 0, u]] w (wV w0 F0 F n g.start L) := by
 obtain ⟨ad, cd, ac, cc, af, cf, aw, cw, ar, cr, pv, S, hd, ht⟩ := hM
 go_enter Tryz.func52, Tryz.ntmps52
 refine sk fun K4 hK4 => ?_
 refine bH S (v := fun n => .pointer (aA n 0)) rfl (bX (v := (.agg #[(iI 4), (iI 0), (iI 0), u])) rfl) (fun n5 w6 S7 => ?_)
 refine wn hK4 ?_
 refine sk fun K8 hK8 => ?_
 refine aC ?_
 refine wn hK8 ?_
 refine aN ?_
 refine sk fun K9 hK9 => ?_
 refine dr bF (dH (b := false) rfl rfl (by decide)) ?_
 refine dy ?_
 simp only [pq]
 refine wn hK9 ?_
 refine aF ?_
 refine sk fun a5 a0 => ?_
 refine dr bF (dH (b := false) rfl rfl (by decide)) ?_
 refine dy ?_
 refine wn a0 ?_
 refine aF ?_
 refine sk fun a6 a1 => ?_
 refine dr bF (dH (b := false) rfl rfl (by decide)) ?_
 refine dy ?_
 simp only [pq]
 refine wn a1 ?_
 refine aF ?_
 refine aB ?_
 refine aC ?_
 refine sW 1 S7 (tP) fun a7 a3 => ?_
 refine aG ?_
 try simp only [xt]
 refine bE (iV rfl) ?_
 have a4 := St.perm a3 (List.perm_middle (l₁ := [_]))
 have a2 : EngM _ _ _ _ n g.start _ := ⟨_, _, _, _, _, _, _, _, _, _, _, a4, hd, ht⟩
 exact ⟨rfl, _, Le.refl _, (a2.drop (.cons _ (zZd _)))⟩
theorem Ie (w0 : World) (F0 : Fz) (w : World) (F : Fz) (n : Nat) (g : Eng) (L : List Blk) {m : Nat} (hM : EngM w0 F0 w F n g L) (hh : Has w0) (hT : Tabs w0) (hg : EngOk m g) (hm : m ≤ 149) (hq : g.replies.length + g.waiting.length ≤ 100000) {a : Ac} (ha : pL a) {u : Value} (hu : Bs F u a.data) (hP : isP a = true → wW) (hK : isK a = true → zW) :
    Calls Tryz.prog 52 #[.pointer (some ⟨n, 0, none⟩), .agg #[.int .i64 ((a.kind : Nat) : Int), .int .i64 ((a.sess : Nat) : Int), .int .i64 ((a.keep : Nat) : Int), u]] w (wV w0 F0 F n (g.act a) L) := by
 cases a with
 | ask s b => exact XE _ _ _ _ _ _ _ hM hh hT hg hm hq s ha.1 b hu (fun h1 h2 => hP (by unfold isP; simp [h1, h2]))
 | sync => exact RV _ _ _ _ _ _ _ hM hh hT hg hm hq u
 | crash k => exact OO _ _ _ _ _ _ _ hM hh hT hg hm hq u k ha (hK rfl)
 | start => exact OP _ _ _ _ _ _ _ hM hh hT hg hm hq u
theorem XF {w0 w : World} {F0 F : Fz} {n k : Nat} {L : List Blk} (S : St w0 F0 w F (⟨n, mY true (.slice none 0 0) 0 (.slice none 0 0) (.slice (some ⟨k, 0, none⟩) 1 1) 0 (fun _ => .pointer none) (fun _ => false) (.slice none 0 0) (.slice none 0 0), 115⟩ :: ⟨k, [.slice none 0 0], 24⟩ :: L) []) : EngM w0 F0 w F n FC L := by
 have hb := (S.blk ⟨k, [.slice none 0 0], 24⟩ (by simp)).2.2
 have S1 := S.perm (List.Perm.swap _ _ _)
 have S2 := St.blkRow (k := 1) (cap := 1) (hR := FoC.mono) (base := w0.heap.size) (l := [([] : aW)]) (el := [[.slice none 0 0]]) S1 rfl ⟨⟨_, rfl, Sl.nil _ _ _⟩, trivial⟩ (by simp) rfl (by simp) (by unfold maxLen; decide) hb
 have S3 := ((S2.addNil 2 CmC CmC.mono 168 w0.heap.size).addNil 1 NtC NtC.mono 3 w0.heap.size).addNil 15 RpC RpC.mono 54 w0.heap.size
 have S4 := S3.permR (M' := pQ w0.heap.size (.slice none 0 0) [] (.slice (some ⟨k, 0, none⟩) 1 1) [[]] (.slice none 0 0) [] (.slice none 0 0) []) (by
  refine (List.perm_middle (l₁ := [_, _]) (l₂ := [_])).trans ?_
  refine List.Perm.cons _ ?_
  exact (List.perm_middle (l₁ := [_, _]) (l₂ := [])).trans (List.Perm.cons _ (List.Perm.swap _ _ _)))
 exact ⟨_, _, _, _, _, _, _, _, _, _, fun _ => .pointer none, S4, Bs.nil _, fun _ _ => rfl⟩
def Jc (F : Fz) (u : Value) (g : Eng) : Prop := ∃ a c b d, u = .agg #[.bool g.up, .int .i64 ((g.synced : Nat) : Int), .int .i64 ((g.waiting.length : Nat) : Int), .slice a (g.forest g.synced).length c, .slice b g.replies.length d] ∧ Tns F (.slice a (g.forest g.synced).length c) (g.forest g.synced) ∧ Rps F (.slice b g.replies.length d) g.replies
def Jm (g : Eng) (F : Fz) (u : Value) : Prop := ∃ x, u = .tuple #[x, .int .i64 0] ∧ Jc F x g
theorem OQ (F : Fz) (w : World) (v : Value) (l : List Ac) (hs : Sat w F) (hh : Has w) (hT : Tabs w) (hv : Acs F v l) (hok : ∀ a ∈ l, pL a) (hc : fK l ≤ 149) (hlen : l.length ≤ 100000) (hP : ∀ a ∈ l, isP a = true → wW) (hK : ∀ a ∈ l, isK a = true → zW) :
    Calls Tryz.prog 35 #[v] w (dF w F (Jm (dZ l))) := by
 obtain ⟨a, c, rfl, hc1, hc2⟩ := Sl.shape hv
 unfold maxLen at hc2
 obtain ⟨l7, e7, e8, e9, f0⟩ := info_parts UI
 have S := St.start hs
 go_enter Tryz.func35, Tryz.ntmps35
 refine sk fun K1 hK1 => ?_
 refine sA S (pX _) fun n2 w3 S4 => ?_
 refine dy ?_
 refine wn hK1 ?_
 refine aE fun K5 hK5 => ?_
 refine sk fun K6 hK6 => ?_
 refine aC ?_
 refine lS ?_
 simp only [pq]
 refine wn hK6 ?_
 refine aF ?_
 refine aH ?_
 refine hK5 _ _ ?_
 refine aE fun K7 hK7 => ?_
 refine sk fun K8 hK8 => ?_
 refine aC ?_
 refine wn hK8 ?_
 refine aN ?_
 refine aX (fun mm aa l8 => ∃ (i : Nat) (F9 : Fz) (a0 : Nat → Value), mm = l.length - i ∧ a0 = dX aa ∧ aa = ⟨#[(.slice a l.length c), undef, (pP n2 0), (a0 3), undef, (a0 5), (a0 6), undef, undef, undef, undef, undef, (.slice a l.length c), (nI l.length), bF, undef, (.slice a l.length c), (nI l.length), (nI i), (a0 19), (a0 20), (a0 21), (a0 22), (a0 23), (a0 24), (a0 25), (a0 26), (a0 27), (a0 28), undef, undef, undef, undef, undef, undef, undef, undef, undef, undef, undef, undef, undef, undef, undef, undef, undef, undef, undef, undef, undef, undef, undef, undef, undef, undef, undef, undef, undef, undef, undef, undef, undef, undef, undef, undef, undef, undef, undef, undef, undef, undef, undef, undef, undef, undef], []⟩ ∧ St w F l8 F9 [⟨n2, [bF, (iI 0), (iI 0), Zn, Zn], 43⟩] [] ∧ Le F F9 ∧ (i ≤ l.length)) _ ⟨0, F, _, rfl, rfl, rfl, S4, Le.refl _, (by omega)⟩ ?_
 rintro r8 r9 s0 ⟨i, F9, a0, rfl, -, rfl, b4, b2, hi⟩ s1 f1
 refine sk fun s2 b6 => ?_
 by_cases f2 : i < l.length
 refine eS ?_
 refine wn b6 ?_
 refine aE fun s3 f3 => ?_
 refine aI ?_
 refine aH ?_
 refine f3 _ _ ?_
 refine aE fun s4 f4 => ?_
 refine aN ?_
 refine aE fun s5 f5 => ?_
 obtain ⟨p, hp⟩ : ∃ p, l[i]? = some p := ⟨l[i], zZc f2⟩
 have hpo := hok p (zZi hp)
 obtain ⟨l9, m0, f6, m1, m2, m3, m4, m5, m6, s6⟩ := Acs.get (hv.mono b2) hp
 have hpo2 : p.data.length ≤ 4000 := by cases p <;> first | exact hpo.2 | exact Nat.zero_le _
 refine aB ?_
 refine dr (pP l9 (m0 + i * 4)) (bN (i := i) (sz := 4) Tryz.underlying23 (HH _) rfl f6 rfl (by omega) rfl) ?_
 refine dr _ (aD rfl (cV Tryz.underlying33 rfl (fC) (eY (St.fz b4 m3) (St.fz b4 m4) (St.fz b4 m5) (St.fz b4 m6)))) ?_
 simp only [pq]
 refine sA b4 (xX _) fun s7 s8 m7 => ?_
 refine sW 0 m7 (fC) fun s9 i9 => ?_
 refine wlK f5 ?_
 refine sk fun t0 f7 => ?_
 refine dR i9 0 Tryz.underlying33 (fC) ?_
 simp only [pq]
 refine aJ (v := (iI 0)) i9 rfl (fn1 (Gw _ _)) (Fd hpo ▸ GH _ _ _ _ _ _ _ (by have := hpo2; omega)) (fun t1 f8 => ?_)
 refine dy ?_
 refine wn f7 ?_
 refine sk fun t2 f9 => ?_
 refine dx ?_
 refine dr bF (cH (m := (0 : Int)) (n := (0 : Int)) (b := false) rfl rfl (bne_eq_false_iff_eq.2 (by simp))) ?_
 simp only [pq]
 refine wn f9 ?_
 refine aF ?_
 refine aH ?_
 refine f4 _ _ ?_
 refine aB ?_
 refine cR (i + 1) ?_
 refine dx ?_
 refine aG ?_
 have f8 := St.drop f8 (.cons _ (zZd _))
 exact f1 _ _ _ (by omega) ⟨(i + 1), F9, _, rfl, rfl, rfl, f8, b2, (by omega)⟩
 refine eM ?_
 simp only [pq]
 refine wn b6 ?_
 refine aE fun t3 m8 => ?_
 refine aF ?_
 refine cP ?_
 refine hK7 _ _ ?_
 refine sk fun t4 g0 => ?_
 refine JB (k := 1) (n := 1) (m := 1) b4 rfl l7 Zn 24 Tryz.underlying106 e7 e8 e9 f0 rfl rfl (by omega) (by omega) (by omega) ?_
 intro e5 t5 j0
 rw [Bh] at j0
 refine dr (.agg #[bT, Zn, (iI 0), Zn, (.slice (aA e5 0) 1 1), (iI 0), (.pointer none), bF, (.pointer none), bF, (.pointer none), bF, (.pointer none), bF, (.pointer none), bF, (.pointer none), bF, (.pointer none), bF, (.pointer none), bF, Zn, Zn]) (aK (fD rfl rfl) (by kernel_rfl)) ?_
 refine bH j0 (v := fun n => .pointer (aA n 0)) rfl (bX (v := (.agg #[bT, Zn, (iI 0), Zn, (.slice (aA e5 0) 1 1), (iI 0), (.pointer none), bF, (.pointer none), bF, (.pointer none), bF, (.pointer none), bF, (.pointer none), bF, (.pointer none), bF, (.pointer none), bF, (.pointer none), bF, Zn, Zn])) rfl) (fun b3 t6 m9 => ?_)
 simp only [pq]
 refine dy ?_
 refine wn g0 ?_
 refine aE fun t7 g1 => ?_
 refine sk fun t8 g2 => ?_
 refine aC ?_
 refine wn g2 ?_
 refine aN ?_
 have g3 := XF m9
 obtain ⟨n0, n1, n3, n4, n5, n6, n7, n8, n9, o0, o1, o2, g4, g5⟩ := g3
 have g6 : EngM _ _ _ _ b3 (dZ (l.take 0)) _ := ⟨_, _, _, _, _, _, _, _, _, _, _, o2, g4, g5⟩
 refine aX (fun mm aa o3 => ∃ (j : Nat) (e6 : Fz) (a5 : Nat → Value), mm = l.length - j ∧ a5 = dX aa ∧ aa = ⟨#[(.slice a l.length c), undef, (pP n2 0), (a0 3), undef, (a0 5), (a0 6), (pP b3 0), undef, (a5 9), undef, undef, (.slice a l.length c), (nI l.length), bF, undef, (.slice a l.length c), (nI l.length), (nI i), bF, (a0 20), (a0 21), (a0 22), (a0 23), (a0 24), (a0 25), (a0 26), (a0 27), (a0 28), (.slice (aA e5 0) 1 1), (.agg #[bT, Zn, (iI 0), Zn, (.slice (aA e5 0) 1 1), (iI 0), (.pointer none), bF, (.pointer none), bF, (.pointer none), bF, (.pointer none), bF, (.pointer none), bF, (.pointer none), bF, (.pointer none), bF, (.pointer none), bF, Zn, Zn]), (pP b3 0), (.slice a l.length c), (nI l.length), (nI j), (a5 35), (a5 36), (a5 37), (a5 38), (a5 39), (a5 40), (a5 41), undef, undef, undef, undef, undef, undef, undef, undef, undef, undef, undef, undef, undef, undef, undef, undef, undef, undef, undef, undef, undef, undef, undef, undef, undef, undef, undef, undef, undef, undef, undef, undef, undef], []⟩ ∧ EngM w F o3 e6 b3 (dZ (l.take j)) [⟨n2, [bF, (iI 0), (iI 0), Zn, Zn], 43⟩] ∧ Le F9 e6 ∧ (j ≤ l.length)) _ ⟨0, _, _, rfl, rfl, rfl, g6, Le.refl _, (by omega)⟩ ?_
 rintro t9 u0 u1 ⟨j, e6, a5, rfl, -, rfl, g7, b7, hj⟩ u2 g8
 obtain ⟨o4, o5, o6, o7, o8, o9, p0, p1, p2, p3, p4, b5, b9, c0⟩ := g7
 refine sk fun u3 c1 => ?_
 by_cases g9 : j < l.length
 refine eS ?_
 refine wn c1 ?_
 refine aE fun u4 h0 => ?_
 refine aI ?_
 refine aH ?_
 refine h0 _ _ ?_
 refine aE fun u5 h1 => ?_
 refine aN ?_
 refine aE fun u6 h2 => ?_
 obtain ⟨p, hp⟩ : ∃ p, l[j]? = some p := ⟨l[j], zZc g9⟩
 have hpo := hok p (zZi hp)
 obtain ⟨p5, p6, h3, c2, c3, p7, p8, p9, h4, h5⟩ := Acs.get (hv.mono (b2.trans b7)) hp
 have hgi := ON hc hok j
 have hri := GI l j hlen
 refine aB ?_
 refine dr (pP p5 (p6 + j * 4)) (bN (i := j) (sz := 4) Tryz.underlying23 (HH _) rfl h3 rfl (by omega) rfl) ?_
 refine dr _ (aD rfl (cV Tryz.underlying33 rfl (fC) (eY (St.fz b5 p7) (St.fz b5 p8) (St.fz b5 p9) (St.fz b5 h4)))) ?_
 simp only [pq]
 refine sA b5 (xX _) fun q0 q1 h6 => ?_
 refine sW 0 h6 (fC) fun q2 c4 => ?_
 refine wlK h2 ?_
 refine aB ?_
 refine dx ?_
 refine dR c4 0 Tryz.underlying33 (fC) ?_
 simp only [pq]
 have h7 := St.perm c4 (List.perm_middle (l₁ := [_]))
 have c5 : EngM _ _ _ _ b3 (dZ (l.take j)) _ := ⟨_, _, _, _, _, _, _, _, _, _, _, h7, b9, c0⟩
 refine doC rfl (fn2 (Gx _ _)) (Ie _ _ _ _ _ _ _ c5 hh hT hgi.1 hgi.2 hri hpo (u := (.slice c2 p.data.length c3)) h5 (hP p (zZi hp)) (hK p (zZi hp))) ?_
 rintro _ q3 ⟨rfl, q4, c6, c7⟩
 refine ⟨_, rfl, ?_⟩
 obtain ⟨j1, j2, j3, j4, j5, j6, j7, j8, j9, k0, k1, h8, c8, c9⟩ := c7
 refine wlK h1 ?_
 refine aB ?_
 refine cR (j + 1) ?_
 refine dx ?_
 refine aG ?_
 have d0 : EngM _ _ _ _ b3 ((dZ (l.take j)).act p) _ := ⟨_, _, _, _, _, _, _, _, _, _, _, h8, c8, c9⟩
 have a7 := d0.drop (.cons _ (zZd _))
 rw [(show (dZ (l.take j)).act p = dZ (l.take (j + 1)) from (XD hp).symm)] at a7
 exact g8 _ _ _ (by omega) ⟨(j + 1), _, _, rfl, rfl, rfl, a7, (b7.trans c6), (by omega)⟩
 refine eM ?_
 simp only [pq]
 refine wn c1 ?_
 refine aE fun q5 k2 => ?_
 refine aF ?_
 refine cP ?_
 refine g1 _ _ ?_
 refine aE fun q6 d1 => ?_
 have hil : l.take j = l := List.take_of_length_le (by omega)
 have a8 : EngM _ _ _ _ b3 (dZ (l.take j)) _ := ⟨_, _, _, _, _, _, _, _, _, _, _, b5, b9, c0⟩
 rw [hil] at a8
 obtain ⟨k3, k4, k5, k6, k7, k8, k9, l0, a9, b0, l1, a1, l2, l3⟩ := a8
 have hge := RR (l := l) (by omega) hok
 have hsy := hge.sync
 have hst := hge.states
 have hsl : (dZ l).synced ≤ (dZ l).commits.length := by omega
 have hfa := vP hge hsl
 have hfo := vQ hge hsl
 obtain ⟨h9, d2, d3, d4, i0, i1⟩ := UJ (a1.own (i := 1) rfl) hfa
 refine aP e6 15 [(10, .made (fun F' u => ZB ((dZ l).forest (dZ l).synced) 0 F' u)), (12, .made (fun F' u => Tns F' u ((dZ l).forest (dZ l).synced))), (13, .is (iI 0))] (by kernel_rfl) (by kernel_rfl) ?_
 simp only [dA]
 refine gm ?_
 refine gi ?_
 refine gf (nF _ _) ?_
 simp only [pq]
 refine gl oS a1 0 ?_
 refine gm ?_
 refine gi ?_
 simp only [pq]
 refine gf (gU _ _) ?_
 refine gl bM a1 0 ?_
 refine gv (pP h9 (0 + ((dZ l).synced) * 1)) (fun _ _ => bN (i := (dZ l).synced) (sz := 1) Tryz.underlying106 (oE _) rfl d2 rfl (by omega) rfl) ?_
 simp only [pq]
 refine gv _ (fun _ a2 => aD rfl (aQ (uV _) (rB a2 i0))) ?_
 simp only [pq]
 refine eE rfl rfl (fun d5 a2 hF => bQ (cB (vs := #[(.slice d3 ((dZ l).forest (dZ l).synced).length d4), Zn]) (gK rfl rfl) rfl (zG _ _)) (dQ a1.sat a2 (yI ((St.tells a1 a2)).sat i1 (Sl.nil _ _ _) hfo (by simp) (show gV ((dZ l).forest (dZ l).synced) [] = (0, ((dZ l).forest (dZ l).synced)) from rfl)))) (fun q7 => ?_)
 refine gm ?_
 simp only [pq]
 refine eE rfl rfl (fun d5 a2 hF_ => ?_) (fun q8 => ?_)
 obtain ⟨i2, i3, _, rfl, d6⟩ := hF_.get 10 (by kernel_rfl) rfl rfl
 exact iD (cC rfl rfl) ⟨i2, i3, d6⟩ (Below.refl _ _)
 simp only [pq]
 refine fT rfl rfl (v := (iI 0)) (fun d5 a2 hF_ => ?_) ?_
 obtain ⟨q9, r0, _, rfl, l4⟩ := hF_.get 10 (by kernel_rfl) rfl rfl
 exact yU (cC rfl rfl)
 refine ga ?_
 refine bU ?_
 intro r1 l5 b1
 obtain ⟨i4, d7, i5⟩ := b1.get 12 rfl rfl
 have a3 := St.gives a1 d7
 have l6 : Le _ _ := d7.le a1.sat
 have a6 := i5
 generalize i4 = i6 at *
 obtain ⟨d8, d9, rfl, r2, r3⟩ := Sl.shape a6
 have a6 : Tns _ (.slice d8 ((dZ l).forest (dZ l).synced).length d9) ((dZ l).forest (dZ l).synced) := a6
 clear b1
 simp only [dB]
 refine dy ?_
 simp only [pq]
 refine wlK d1 ?_
 refine aE fun r4 e0 => ?_
 refine aP i6 18 [] (by kernel_rfl) (by kernel_rfl) ?_
 simp only [dA]
 refine gm ?_
 refine gi ?_
 refine gf (qY _ _) ?_
 simp only [pq]
 refine gl iJ a3 0 ?_
 refine gm ?_
 refine gi ?_
 simp only [pq]
 refine gf (gU _ _) ?_
 refine gl bM a3 0 ?_
 refine gm ?_
 simp only [pq]
 refine gi ?_
 refine gf (tU _ _) ?_
 refine gl JE a3 0 ?_
 simp only [pq]
 refine gv (.int .i64 (((dZ l).waiting.length : Nat) : Int)) (fun _ _ => oO Tryz.underlying60 rfl) ?_
 iterate 2 refine gm ?_
 simp only [pq]
 refine gi ?_
 refine gf (tV _ _) ?_
 refine gl nX a3 0 ?_
 simp only [pq]
 refine bU ?_
 intro r5 e1 e2
 clear e2
 have i7 := St.tells a3 e1
 simp only [dB]
 refine dr (.agg #[(.bool (dZ l).up), (.int .i64 (((dZ l).synced : Nat) : Int)), (.int .i64 (((dZ l).waiting.length : Nat) : Int)), (.slice d8 ((dZ l).forest (dZ l).synced).length d9), (.slice a9 (dZ l).replies.length b0)]) (aK (Ik rfl rfl rfl rfl rfl) (by kernel_rfl)) ?_
 refine sW 1 i7 (mC) fun r6 e3 => ?_
 refine dy ?_
 simp only [pq]
 refine wlK e0 ?_
 refine aO ?_
 try simp only [xt]
 refine bR (dM rfl ⟨_, rfl, lR e3 1 Tryz.underlying43 (mC)⟩ (gD rfl)) ?_
 obtain ⟨r7, i8, e4, a4⟩ := St.freeze e3 (i := 3) rfl (zZe _)
 have a4 : Rps _ (.slice a9 (dZ l).replies.length b0) ((dZ l).replies) := a4
 exact ⟨_, _, rfl, i8.gr, _, rfl, _, _, _, _, rfl, (a6.mono e4), a4⟩
def AcV (F : Fz) (u : Value) (a : Ac) : Prop := ∃ x y, u = .agg #[.int .i64 ((a.kind : Nat) : Int), .int .i64 ((a.sess : Nat) : Int), .int .i64 ((a.keep : Nat) : Int), .slice x a.data.length y] ∧ Bs F (.slice x a.data.length y) a.data
def Jd (g : Eng) (F : Fz) (u : Value) : Prop := ∃ x, u = .tuple #[x, .bool true] ∧ Jc F x g
theorem Rps.mono {F F' : Fz} {v : Value} {l : List Rep} (h : Rps F v l) (hl : Le F F') : Rps F' v l := Sl.mono RpC.mono h hl
theorem AcC.one (F : Fz) (cs : List Value) (p : Ac) (h : AcC F cs p) : ∀ u ∈ cs, u.oneCell' = true := h.oneCell
theorem AR (F : Fz) (w : World) (u : Value) (s k : Nat) (r : Rq) (hs : Sat w F) (hh : Has w) (hv : BG F u k r.name r.key r.last r.value) (ok : RqOk k r) :
    Calls Tryz.prog 21 #[.int .i64 ((s : Nat) : Int), u] w (dF w F fun F' u => AcV F' u (.ask s (mW k r))) := by
 obtain ⟨_, _, _, _, rfl, q0, q1, q2, q3⟩ := hv
 obtain ⟨a0, c0, rfl, _⟩ := q0.shape
 obtain ⟨a1, c1, rfl, _⟩ := q1.shape
 obtain ⟨a2, c2, rfl, _⟩ := q2.shape
 obtain ⟨a3, c3, rfl, _⟩ := q3.shape
 have S := St.start hs
 go_enter Tryz.func21, Tryz.ntmps21
 refine sk fun K1 hK1 => ?_
 refine bH S (v := fun n => .pointer (aA n 0)) rfl (bX (v := (.agg #[(nI k), (.slice a0 r.name.length c0), (.slice a1 r.key.length c1), (.slice a2 r.last.length c2), (.slice a3 r.value.length c3)])) rfl) (fun n2 w3 S4 => ?_)
 refine sA S4 (xX _) fun n5 w6 S7 => ?_
 refine wn hK1 ?_
 refine sk fun K8 hK8 => ?_
 refine dR S7 1 Tryz.underlying27 (bG) ?_
 refine aR S7 rfl (fn1 (Gq _ _)) (BH _ _ _ k r (S7).sat (hh.below S7.gr.below) ⟨_, _, _, _, rfl, q0, q1, q2, q3⟩ ok) ?_
 intro b2 w9 b3 a9 b0 b1
 obtain ⟨_, rfl, a7⟩ := b1
 obtain ⟨a4, a5, rfl, _⟩ := a7.shape
 refine aC ?_
 refine wn hK8 ?_
 refine sk fun b4 a6 => ?_
 iterate 2 refine dx ?_
 refine dr (.agg #[(iI 1), (nI s), (iI 0), (.slice a4 (mW k r).length a5)]) (aK (LY rfl rfl rfl) (by kernel_rfl)) ?_
 simp only [pq]
 refine sW 0 a9 (fC) fun b5 a8 => ?_
 refine wn a6 ?_
 refine aO ?_
 try simp only [xt]
 refine bR (lJ rfl ⟨_, rfl, lR a8 0 Tryz.underlying33 (fC)⟩) ?_
 exact ⟨_, _, rfl, a8.gr, _, _, rfl, a7⟩
theorem Bi (F : Fz) (w : World) (v : Value) (l : List Ac) (hs : Sat w F) (hh : Has w) (hT : Tabs w) (hv : Acs F v l) (hok : ∀ a ∈ l, pL a) (hc : fK l ≤ 149) (hlen : l.length ≤ 100000) (hP : ∀ a ∈ l, isP a = true → wW) (hK : ∀ a ∈ l, isK a = true → zW) :
    Calls Tryz.prog 23 #[v] w (dF w F (Jd (dZ l))) := by
 obtain ⟨a, c, rfl, hc1, hc2⟩ := Sl.shape hv
 have S := St.start hs
 go_enter Tryz.func23, Tryz.ntmps23
 refine sk fun K1 hK1 => ?_
 refine sA S (pX _) fun n2 w3 S4 => ?_
 refine dy ?_
 refine wn hK1 ?_
 refine sk fun K5 hK5 => ?_
 refine dx ?_
 simp only [pq]
 refine aR S4 rfl (fn1 (YP _ _)) (OQ _ _ _ l (S4).sat (hh.below S4.gr.below) (hT.at S4.gr.below) hv hok hc hlen hP hK) ?_
 intro d4 w6 F8 S7 le9 b7
 obtain ⟨_, rfl, b9⟩ := b7
 obtain ⟨a6, a7, a8, a9, rfl, c0, c1⟩ := b9
 refine aC ?_
 refine sA S7 (pX _) fun c2 d5 c3 => ?_
 refine sW 0 c3 (mC) fun d6 a4 => ?_
 refine dy ?_
 simp only [pq]
 refine wn hK5 ?_
 refine sk fun d7 b0 => ?_
 refine aR a4 rfl (fn1 (YP _ _)) (OQ _ _ _ [] (a4).sat (hh.below a4.gr.below) (hT.at a4.gr.below) (Sl.nil _ _ _) (by simp) (by decide) (by simp) (by simp) (by simp)) ?_
 intro d8 d9 c4 c5 a2 c6
 obtain ⟨_, rfl, c7⟩ := c6
 obtain ⟨e0, e1, e2, e3, rfl, e4, e5⟩ := c7
 refine aC ?_
 refine sA c5 (pX _) fun c8 e6 c9 => ?_
 refine sW 0 c9 (mC) fun b6 d0 => ?_
 refine dy ?_
 simp only [pq]
 refine wn b0 ?_
 refine aE fun e7 b1 => ?_
 obtain ⟨d1, a3, b2⟩ := St.freezeBlk d0 (i := 1) rfl
 generalize addF c4 b6 c2 = d2 at *
 obtain ⟨d3, a1, b3⟩ := St.freezeBlk d1 (i := 0) rfl
 generalize addF d2 b6 c8 = e8 at *
 refine gC d3 (by kernel_rfl) (fun e9 a0 => ?_)
 refine bW 0 rfl (.agg #[(.bool (dZ l).up), (.int .i64 (((dZ l).synced : Nat) : Int)), (.int .i64 (((dZ l).waiting.length : Nat) : Int)), (.slice a6 ((dZ l).forest (dZ l).synced).length a7), (.slice a8 (dZ l).replies.length a9)]) a0.sat (fun _ b4 => aD rfl (jC (cs := [(.bool (dZ l).up), (.int .i64 (((dZ l).synced : Nat) : Int)), (.int .i64 (((dZ l).waiting.length : Nat) : Int)), (.slice a6 ((dZ l).forest (dZ l).synced).length a7), (.slice a8 (dZ l).replies.length a9)]) Tryz.underlying43 rfl (mC) (zV (c := [(.bool (dZ l).up), (.int .i64 (((dZ l).synced : Nat) : Int)), (.int .i64 (((dZ l).waiting.length : Nat) : Int)), (.slice a6 ((dZ l).forest (dZ l).synced).length a7), (.slice a8 (dZ l).replies.length a9)]) (St.start b4).sat (Le.cells a1 b2)))) ?_
 simp only [pq]
 refine dN 1 rfl a0.sat ?_
 simp only [pq]
 refine bW 2 rfl bT a0.sat (fun _ _ => dH (b := true) rfl rfl (by decide)) ?_
 simp only [pq]
 refine dN 3 rfl a0.sat ?_
 simp only [pq]
 refine dN 4 rfl a0.sat ?_
 simp only [pq]
 refine bW 5 rfl bT a0.sat (fun _ _ => dH (b := true) rfl rfl (by decide)) ?_
 simp only [pq]
 refine bW 6 rfl bT a0.sat (fun _ _ => uS (b := true) rfl) ?_
 simp only [pq]
 refine dN 7 rfl a0.sat ?_
 simp only [pq]
 refine bW 8 rfl _ a0.sat (fun _ _ => ef (SV _ _)) ?_
 simp only [pq]
 refine bW 9 rfl _ a0.sat (fun _ b5 => aD rfl (aQ (iJ _) (St.fz (St.start b5) (b3 0 _ rfl)))) ?_
 simp only [pq]
 refine bW 10 rfl bT a0.sat (fun _ _ => uS (b := true) rfl) ?_
 simp only [pq]
 refine cW 11 (by kernel_rfl) rfl ?_
 refine sW 0 a0 (mC) fun f0 a5 => ?_
 refine aG (cA a5.sat ?_)
 refine eU 12 rfl a5.sat ?_
 simp only [pq]
 refine gX (by kernel_rfl) ?_
 refine b1 _ _ ?_
 refine aO ?_
 try simp only [xt]
 refine bR (dM rfl ⟨_, rfl, lR a5 0 Tryz.underlying43 (mC)⟩ (gD rfl)) ?_
 exact ⟨_, _, rfl, a5.gr, _, rfl, _, _, _, _, rfl, (c0.mono ((a2.trans a3).trans a1)), (c1.mono ((a2.trans a3).trans a1))⟩
structure ScrOk (l : List Ac) : Prop where
  ok : ∀ a ∈ l, pL a
  c : fK l ≤ 149
  len : l.length ≤ 100000
  P : ∀ a ∈ l, isP a = true → wW
  K : ∀ a ∈ l, isK a = true → zW
theorem sR (F : Fz) (w : World) (v : Value) (l : List Ac) {g : Eng} (hs : Sat w F) (hh : Has w) (hT : Tabs w) (hv : Acs F v l) (h : ScrOk l) (hg : dZ l = g) :
    Calls Tryz.prog 23 #[v] w (dF w F (Jd g)) := hg ▸ Bi F w v l hs hh hT hv h.ok h.c h.len h.P h.K
def rq0 : Rq := ⟨[], [], [], []⟩
def iG (z : Int) : UInt8 := UInt8.ofNat (z % 256).toNat
theorem Fe {g : Eng} {s k : Nat} {r : Rq} (ok : RqOk k r) : g.act (.ask s (mW k r)) = if g.up then g.req s k r else g.reply (fQ s 13) := by
 unfold Eng.act Eng.ask
 simp only [(UC ok).1, (UC ok).2]
 rfl
inductive Rc where
  | rq (s k : Nat) (r : Rq)
  | sync
  | crash (k : Nat)
  | start
def Rc.ac : Rc → Ac
  | .rq s k r => .ask s (mW k r)
  | .sync => .sync
  | .crash k => .crash k
  | .start => .start
def Eng.rc (g : Eng) : Rc → Eng
  | .rq s k r => if g.up then g.req s k r else g.reply (fQ s 13)
  | .sync => g.sync
  | .crash k => g.crash k
  | .start => g.start
def Ff : Rc → Prop
  | .rq s k r => s < 8 ∧ RqOk k r
  | .crash k => k ≤ 100000
  | _ => True
theorem If (g : Eng) {a : Rc} (h : Ff a) : g.act a.ac = g.rc a := by
 cases a with
 | rq s k r => exact Fe h.2
 | sync => rfl
 | crash k => rfl
 | start => rfl
theorem Bj : ∀ (l : List Rc) (g : Eng), (∀ a ∈ l, Ff a) → (l.map Rc.ac).foldl Eng.act g = l.foldl Eng.rc g
  | [], g, _ => rfl
  | a :: l, g, h => by
    rw [List.map_cons, List.foldl_cons, List.foldl_cons, If g (h a (by simp)), Bj l _ (fun x hx => h x (by simp [hx]))]
theorem UL {a : Rc} (h : Ff a) : pL a.ac := by
 cases a with
 | rq s k r =>
  refine ⟨h.1, ?_⟩
  have := OD h.2
  omega
 | sync => trivial
 | crash k => exact h
 | start => trivial
theorem vR (z : Int) (w : World) : (convert 3 5 (.int .i64 z)).run Tryz.prog w = .ok (.int .u8 (((iG z).toNat : Nat) : Int)) w := by
 have e : IntKind.u8.wrap z = (((iG z).toNat : Nat) : Int) := by
  rw [show IntKind.u8.wrap z = z % 256 from rfl]
  have h : (iG z).toNat = (z % 256).toNat := by
   have hm : (z % 256).toNat < 256 := by omega
   unfold iG
   simp only [UInt8.toNat_ofNat']
   exact Nat.mod_eq_of_lt hm
  rw [h]; omega
 rw [← e]
 go_simp
open Go.ChangeShapes Go.WideShapes Go.ChangeAt Go.RowKit
abbrev IL : List (String × DataW Unit) := [("canopy/digest.rounds", Rows.laid_canopy_digest_rounds), ("canopy/digest.goes", Rows.laid_canopy_digest_goes), ("canopy/digest.turns", Rows.laid_canopy_digest_turns), ("canopy/wire.has", Rows.laid_canopy_wire_has)]
theorem Bk {W : World} (h : laidMetH Tryz.prog IL W) : Tabs W := by
 have hr : Lib.TabIs Tryz.prog W "canopy/digest.rounds" .u64 UE :=
  yM (l := IL) h 0 _ _ _ rfl UF OG Tryz.underlying218 Tryz.underlying215 RM LD
 have hg : Lib.TabIs Tryz.prog W "canopy/digest.goes" .i64 Gb :=
  yM (l := IL) h 1 _ _ _ rfl Gc WV Tryz.underlying235 Tryz.underlying3 Aq RN
 have ht : Lib.TabIs Tryz.prog W "canopy/digest.turns" .i64 Ar :=
  yM (l := IL) h 2 _ _ _ rfl As RO Tryz.underlying235 Tryz.underlying3 WW OH
 refine ⟨fun i hi => ?_, fun i hi => ?_, fun i hi => ?_⟩
 rw [RQ hg Gc (n := 24) rfl hi, At i hi]
 rw [RQ ht As (n := 24) rfl hi, WX i hi]
 rw [RQ hr UF (n := 24) rfl hi, RP i hi]
theorem Je : Tryz.prog.globalNamed "canopy/wire.has" = some 0 := by kernel_rfl
theorem Bl : (Tryz.prog.globals[(0 : Nat)]?).map (·.type) = some 92 := by kernel_rfl
theorem XG : Tryz.prog.cellsOf 92 = 9 := by kernel_rfl
theorem Bm : Tryz.prog.cellsOf 3 = 1 := by kernel_rfl
theorem Bn {W : World} (h : laidMetH Tryz.prog IL W) : Has W := by
 have ht : Lib.TabIs Tryz.prog W "canopy/wire.has" .i64 RK :=
  yM (l := IL) h 3 _ _ _ rfl Je Bl Tryz.underlying92 Tryz.underlying3 Bm XG
 intro i hi
 have := ht.cell Je i hi
 rw [this]
 simp [List.getD, hi]
theorem Fg {W : World} (h : laidMetH Tryz.prog [("canopy/digest.rounds", Rows.laid_canopy_digest_rounds), ("canopy/digest.goes", Rows.laid_canopy_digest_goes), ("canopy/digest.turns", Rows.laid_canopy_digest_turns), ("canopy/wire.has", Rows.laid_canopy_wire_has)] W) : Has W ∧ Tabs W := ⟨Bn h, Bk h⟩
noncomputable def FI (os : Os) : World := { OI os with heap := (OI os).heap.modify 0 (setCells #[.int .i64 0, .int .i64 0, .int .i64 3, .int .i64 7, .int .i64 11, .int .i64 3, .int .i64 0, .int .i64 0, .int .i64 3]) }
theorem Rps.row {F : Fz} {a : Option Addr} {n c : Nat} {l : List Rep} (h : Rps F (.slice a n c) l) {i : Nat} {r : Rep} (hp : l[i]? = some r) :
    ∃ b o, a = some ⟨b, o, none⟩ ∧ ∃ va vc pa pc ra rc a1 a2 a3 b1 b2 b3, (∀ (j : Nat) v, [Value.int .i64 ((r.s : Nat) : Int), .int .i64 r.code, .int .i64 r.turn, .bool r.found, .slice va r.value.length vc, .slice pa r.pairs.length pc, .slice ra r.root.length rc, .bool r.outer.empty, a1, a2, a3, .bool r.inner.empty, b1, b2, b3][j]? = some v → cS F b (o + i * 15 + j) = some v) ∧ (∀ u ∈ [a1, a2, a3, b1, b2, b3], u.oneCell' = true) ∧ Bs F (.slice va r.value.length vc) r.value ∧ Prs F (.slice pa r.pairs.length pc) r.pairs ∧ Bs F (.slice ra r.root.length rc) r.root := by
 obtain ⟨hi, rfl⟩ := List.getElem?_eq_some_iff.1 hp
 have hn := Sl.len h
 obtain ⟨b, o, e, h1⟩ := Sl.at h (by omega) (by omega)
 obtain ⟨cs, q1, hc, q3⟩ := h1 i hi
 have hone := RpC.oneCell hc
 obtain ⟨v, p, q, a1, a2, a3, b1, b2, b3, rfl, r1, r2, r3, _⟩ := hc
 obtain ⟨va, vc, rfl, _⟩ := r1.shape
 obtain ⟨pa, pc, rfl, _⟩ := Sl.shape r2
 obtain ⟨ra, rc, rfl, _⟩ := r3.shape
 refine ⟨b, o, e, va, vc, pa, pc, ra, rc, a1, a2, a3, b1, b2, b3, fun j v hv => ?_, fun u hu => hone u ?_, r1, r2, r3⟩
 obtain ⟨hj, e⟩ := List.getElem?_eq_some_iff.1 hv
 have := q3 j (by simpa using hj)
 rw [← e]; simpa [Nat.add_assoc] using this
 simp only [zZk, List.not_mem_nil, or_false] at hu ⊢
 rcases hu with h | h | h | h | h | h <;> simp [h]
theorem IM {P : Program} {o : Oper} {a : Act} {W w : World} {F F1 : Fz} {b : UInt8} {E : TypeId} (g : Gr W F w F1)
    (hr : (execOp a.eval o).run P w = .ok (.value (.slice (some ⟨w.heap.size, 0, none⟩) 1 1)) (w.alloc (.cells #[bv b] E))) : kO P o a w (kV (Made W F fun F' u => Bs F' u [b]) w) := by
 have h := tY (R := ByC) (hR := ByC.mono) (p := b) (cs := [bv b]) (k := 1) g rfl rfl hr
 unfold kO at h ⊢
 rw [hr] at h ⊢
 obtain ⟨⟨F', h2, h3⟩, h4⟩ := h
 exact ⟨⟨F', h2, eF h3⟩, h4⟩
def ReqR (F : Fz) (v : Value) (p : Nat × Rq) : Prop := ∃ a c a1 c1 a2 c2 a3 c3, v = .agg #[.int .i64 ((p.1 : Nat) : Int), .slice a p.2.name.length c, .slice a1 p.2.key.length c1, .slice a2 p.2.last.length c2, .slice a3 p.2.value.length c3] ∧ Bs F (.slice a p.2.name.length c) p.2.name ∧ Bs F (.slice a1 p.2.key.length c1) p.2.key ∧ Bs F (.slice a2 p.2.last.length c2) p.2.last ∧ Bs F (.slice a3 p.2.value.length c3) p.2.value
structure EngB (g : Eng) : Prop where
  wait : ∀ s, g.waits s = true → s ∈ g.waiting
  txn : ∀ s, 8 ≤ s → g.txn s = none
  down : g.up = false → g.waiting = [] ∧ (∀ s, g.txn s = none) ∧ g.tape.synced = g.tape.data.length
theorem EngB.up {g : Eng} (h : EngB g) (hu : g.up = true) {g' : Eng} (h1 : g'.waits = g.waits) (h2 : g'.waiting = g.waiting) (h3 : g'.up = g.up) (h4 : ∀ s, 8 ≤ s → g'.txn s = none) : EngB g' :=
  ⟨by rw [h1, h2]; exact h.wait, h4, fun e => by rw [h3, hu] at e; cases e⟩
theorem EngB.reply {g : Eng} (h : EngB g) (r : Rep) : EngB (g.reply r) := ⟨h.wait, h.txn, h.down⟩
theorem EngB.setTxn {g : Eng} (h : EngB g) (hu : g.up = true) {s : Nat} (hs : s < 8) (t : Option Tx) : EngB (g.setTxn s t) :=
  h.up hu rfl rfl rfl (fun i hi => by show qM g.txn s t i = none; rw [jZ _ (by omega)]; exact h.txn i hi)
theorem EngB.req {g : Eng} (h : EngB g) (hu : g.up = true) {s : Nat} (hs : s < 8) (k : Nat) (r : Rq) : EngB (g.req s k r) := by
 have hst := fun t => h.setTxn hu hs t
 unfold Eng.req
 split
 exact h.reply _
 split
 exact h.reply _
 split
 split
 exact (hst _).reply _
 exact h.reply _
 rename_i t ht
 split
 exact h.reply _
 split
 exact (hst _).reply _
 split
 unfold Eng.work
 split
 unfold Eng.look
 simp only
 split
 exact h.reply _
 unfold Eng.note
 split
 exact h.reply _
 exact (hst _).reply _
 split
 unfold Eng.scan
 split
 exact h.reply _
 unfold Eng.note
 split
 exact h.reply _
 exact (hst _).reply _
 split
 unfold Eng.commit
 split
 exact (hst _).reply _
 split
 exact h.reply _
 split
 exact (hst _).reply _
 split
 exact (hst _).reply _
 unfold Eng.stand
 refine ⟨fun i hi => ?_, fun i hi => ?_, fun e => by simp only at e; rw [hu] at e; cases e⟩
 simp only at hi ⊢
 by_cases e : i = s
 subst e; simp
 rw [jZ _ e] at hi; simp [h.wait i hi]
 show qM g.txn s none i = none; rw [jZ _ (by omega)]; exact h.txn i hi
 unfold Eng.put
 split
 exact h.reply _
 exact (hst _).reply _
 exact (hst _).reply _
theorem EngB.crash {m : Nat} {g : Eng} (h : EngB g) (ho : EngOk m g) (k : Nat) : EngB (g.crash k) := by
 cases hu : g.up with
 | false => unfold Eng.crash; rw [hu]; exact h
 | true =>
  rw [crash_is ho hu]
  exact ⟨fun i hi => (by cases hi), fun i hi => rfl, fun _ => ⟨rfl, fun _ => rfl, rfl⟩⟩
theorem EngB.act {m : Nat} {g : Eng} (h : EngB g) (ho : EngOk m g) {a : Ac} (ha : pL a) : EngB (g.act a) := by
 cases a with
 | ask s b =>
  unfold Eng.act Eng.ask
  simp only
  split
  rename_i hu
  split
  exact h.req hu ha.1 _ _
  exact h.reply _
  exact h.reply _
 | sync =>
  show EngB g.sync
  cases hu : g.up with
  | false => unfold Eng.sync; rw [hu]; exact h
  | true =>
   rw [sP hu]
   refine ⟨fun i hi => ?_, h.txn, fun e => by simp only at e; rw [hu] at e; cases e⟩
   simp only at hi
   split at hi
   cases hi
   exact absurd (h.wait i hi) (by assumption)
 | crash k => exact h.crash ho k
 | start => exact ⟨h.wait, h.txn, fun e => (by cases e)⟩
theorem Ig : EngB FC := ⟨fun i hi => (by cases hi), fun i hi => rfl, fun e => (by cases e)⟩
theorem EngB.run : ∀ (l : List Ac) {m : Nat} {g : Eng}, EngB g → EngOk m g → m + fK l ≤ 1000 → (∀ a ∈ l, pL a) → EngB (l.foldl Eng.act g)
  | [], m, g, h, _, _, _ => h
  | a :: l, m, g, h, ho, hm, ha => by
    have e : fK (a :: l) = (if isC a then 1 else 0) + fK l := by simp [fK]
    rw [e] at hm
    rw [List.foldl_cons]
    exact EngB.run l (h.act ho (ha a (by simp))) (ho.act (by omega) (ha a (by simp))) (by omega) (fun x hx => ha x (by simp [hx]))
theorem Jf {l : List Ac} (hl : fK l ≤ 1000) (ha : ∀ a ∈ l, pL a) : EngB (dZ l) := EngB.run l Ig UH (by omega) ha
structure Still (m : Nat) (g : Eng) : Prop where
  ok : EngOk m g
  b : EngB g
  wait : g.waiting = []
  safe : g.tape.synced = g.tape.data.length
theorem Still.sync {m : Nat} {g : Eng} (ho : EngOk m g) (hb : EngB g) : Still m g.sync := by
 refine ⟨ho.syncs, hb.act (a := .sync) ho trivial, ?_, ?_⟩
 cases hu : g.up with
 | false => unfold Eng.sync; rw [hu]; exact (hb.down hu).1
 | true => rw [sP hu]
 cases hu : g.up with
 | false => unfold Eng.sync; rw [hu]; exact (hb.down hu).2.2
 | true => rw [sP hu]
theorem Still.start {m : Nat} {g : Eng} (h : Still m g) : Still m g.start := ⟨h.ok.starts, h.b.act (a := .start) h.ok trivial, h.wait, h.safe⟩
theorem Still.waits {m : Nat} {g : Eng} (h : Still m g) : g.waits = fun _ => false := by
 funext i
 cases e : g.waits i with
 | false => rfl
 | true => have := h.b.wait i e; rw [h.wait] at this; cases this
theorem Still.synced {m : Nat} {g : Eng} (h : Still m g) : g.synced = g.commits.length := by
 have := h.ok.sync; rw [h.wait] at this; simpa using this.symm
theorem Eng.ext' {a b : Eng} (h1 : a.up = b.up) (h2 : a.tape = b.tape) (h3 : a.commits = b.commits) (h4 : a.forests = b.forests) (h5 : a.synced = b.synced) (h6 : a.txn = b.txn) (h7 : a.waits = b.waits) (h8 : a.waiting = b.waiting) (h9 : a.replies = b.replies) : a = b := by
 cases a; cases b; simp only at h1 h2 h3 h4 h5 h6 h7 h8 h9; subst h1 h2 h3 h4 h5 h6 h7 h8 h9; rfl
theorem Tp.ext' {a b : Tp} (h1 : a.data = b.data) (h2 : a.synced = b.synced) : a = b := by
 cases a; cases b; simp only at h1 h2; subst h1 h2; rfl
theorem Still.left {m : Nat} {g : Eng} (h : Still m g) (k : Nat) : g.left k = g.commits.length := by
 have := h.ok.left_le k; rw [h.synced] at this; omega
theorem Still.crash_is {m : Nat} {g : Eng} (h : Still m g) (k : Nat) : (g.crash k) = { g with up := false, txn := fun _ => none } := by
 cases hu : g.up with
 | false =>
  unfold Eng.crash; rw [hu]
  exact Eng.ext' hu rfl rfl rfl rfl (funext fun i => (h.b.down hu).2.1 i) rfl rfl rfl
 | true =>
  rw [Go.Proofs.YtilgpdpooildcaaGreatDoor.crash_is h.ok hu, h.left, List.take_of_length_le (zZe _), List.take_of_length_le (Nat.le_of_eq h.ok.states)]
  exact Eng.ext' rfl (Tp.ext' h.ok.data.symm (by show (dU g.commits).length = g.tape.synced; rw [h.safe, h.ok.data])) rfl rfl h.synced.symm rfl h.waits.symm h.wait.symm rfl
def Eng.pre (R : List Rep) (g : Eng) : Eng := { g with replies := R ++ g.replies }
theorem eP (R : List Rep) (g : Eng) (r : Rep) : (g.pre R).reply r = (g.reply r).pre R := Eng.ext' rfl rfl rfl rfl rfl rfl rfl rfl (zZl _ _ _)
theorem kA (R : List Rep) (g : Eng) (s : Nat) (t : Option Tx) : (g.pre R).setTxn s t = (g.setTxn s t).pre R := rfl
theorem OR (R : List Rep) (g : Eng) (s : Nat) (t : Tx) (r : Rd) (y : Rep) : (g.pre R).note s t r y = (g.note s t r y).pre R := by
 unfold Eng.note
 split
 ·exact eP _ _ _
 ·rw [kA, eP]
theorem RW (R : List Rep) (g : Eng) (s : Nat) (t : Tx) : (g.pre R).commit s t = (g.commit s t).pre R := by
 unfold Eng.commit
 by_cases h1 : t.writes = []
 ·rw [zZb h1, zZb h1, kA, eP]
 rw [zZa h1, zZa h1]
 by_cases h2 : g.commits.length - g.synced = 6 ∨ g.commits.length = 300
 ·rw [zZb h2, zZb (show (g.pre R).commits.length - (g.pre R).synced = 6 ∨ (g.pre R).commits.length = 300 from h2), eP]
 rw [zZa h2, zZa (show ¬ ((g.pre R).commits.length - (g.pre R).synced = 6 ∨ (g.pre R).commits.length = 300) from h2)]
 by_cases h3 : rT t.start t.reads g.commits = true
 ·rw [zZb h3, zZb (show rT t.start t.reads (g.pre R).commits = true from h3), kA, eP]
 rw [zZa h3, zZa (show ¬ rT t.start t.reads (g.pre R).commits = true from h3)]
 rw [show (g.pre R).forest (g.pre R).commits.length = g.forest g.commits.length from rfl]
 cases h4 : lV (g.forest g.commits.length) t.writes with
 | none => simp only; rw [kA, eP]
 | some f => rfl
theorem Bo (R : List Rep) (g : Eng) (s : Nat) (t : Tx) (k : Nat) (r : Rq) : (g.pre R).work s t k r = (g.work s t k r).pre R := by
 unfold Eng.work
 by_cases h1 : k = 2
 ·rw [zZb h1, zZb h1]
  unfold Eng.look
  rw [show (g.pre R).forest t.start.toNat = g.forest t.start.toNat from rfl]
  simp only
  by_cases h : (cY (g.forest t.start.toNat) t r.name r.key).2 = true
  ·rw [zZb h, zZb h]; exact eP _ _ _
  ·rw [zZa h, zZa h]; exact OR _ _ _ _ _ _
 rw [zZa h1, zZa h1]
 by_cases h2 : k = 3
 ·rw [zZb h2, zZb h2]
  unfold Eng.scan
  rw [show (g.pre R).forest t.start.toNat = g.forest t.start.toNat from rfl]
  cases GV (g.forest t.start.toNat) t r.name r.key r.last with
  | none => exact eP _ _ _
  | some l => exact OR _ _ _ _ _ _
 rw [zZa h2, zZa h2]
 by_cases h3 : k = 6
 ·rw [zZb h3, zZb h3]; exact RW _ _ _ _
 rw [zZa h3, zZa h3]
 unfold Eng.put
 cases gR t ⟨r.name, r.key, k == 5, r.value⟩ with
 | none => exact eP _ _ _
 | some u => simp only; rw [kA, eP]
theorem Fh (R : List Rep) (g : Eng) (s k : Nat) (r : Rq) : (g.pre R).req s k r = (g.req s k r).pre R := by
 unfold Eng.req
 by_cases h1 : k = 8
 ·rw [zZb h1, zZb h1]; exact eP _ _ _
 rw [zZa h1, zZa h1, show (g.pre R).waits s = g.waits s from rfl]
 by_cases h2 : g.waits s = true
 ·rw [zZb h2, zZb h2]; exact eP _ _ _
 rw [zZa h2, zZa h2, show (g.pre R).txn s = g.txn s from rfl]
 cases g.txn s with
 | none =>
  simp only
  by_cases h3 : k = 1
  ·rw [zZb h3, zZb h3, kA, eP]; rfl
  ·rw [zZa h3, zZa h3]; exact eP _ _ _
 | some t =>
  simp only
  by_cases h3 : k = 1
  ·rw [zZb h3, zZb h3]; exact eP _ _ _
  rw [zZa h3, zZa h3]
  by_cases h4 : k = 7
  ·rw [zZb h4, zZb h4, kA, eP]
  rw [zZa h4, zZa h4, show (g.pre R).synced = g.synced from rfl]
  by_cases h5 : Eng.keptB g.synced t.start = true
  ·rw [zZb h5, zZb h5]; exact Bo _ _ _ _ _ _
  ·rw [zZa h5, zZa h5, kA, eP]
theorem Fi (R : List Rep) (g : Eng) (a : Ac) : (g.pre R).act a = (g.act a).pre R := by
 cases a with
 | ask s b =>
  show (g.pre R).ask s b = (g.ask s b).pre R
  unfold Eng.ask
  rw [show (g.pre R).up = g.up from rfl]
  by_cases h1 : g.up = true
  ·rw [zZb h1, zZb h1]
   by_cases h2 : wdE b = 0
   ·rw [zZb h2, zZb h2]; exact Fh _ _ _ _ _
   ·rw [zZa h2, zZa h2]; exact eP _ _ _
  ·rw [zZa h1, zZa h1]; exact eP _ _ _
 | sync =>
  show (g.pre R).sync = g.sync.pre R
  cases hu : g.up with
  | false => unfold Eng.sync; rw [show (g.pre R).up = false from hu, hu]; rfl
  | true =>
   rw [sP hu, sP (show (g.pre R).up = true from hu)]
   exact Eng.ext' rfl rfl rfl rfl rfl rfl rfl rfl (zZl _ _ _)
 | crash k =>
  show (g.pre R).crash k = (g.crash k).pre R
  unfold Eng.crash
  rw [show (g.pre R).up = g.up from rfl]
  by_cases h1 : g.up = true
  ·rw [zZb h1, zZb h1]; rfl
  ·rw [zZa h1, zZa h1]
 | start => rfl
theorem LE (R : List Rep) : ∀ (l : List Ac) (g : Eng), l.foldl Eng.act (g.pre R) = (l.foldl Eng.act g).pre R
  | [], _ => rfl
  | a :: l, g => by rw [List.foldl_cons, List.foldl_cons, Fi, LE R l]
def cG (n : Nat) : List Rc := (List.range n).map fun i => .rq i 7 rq0
theorem FJ {m : Nat} {g : Eng} (h : Still m g) (hu : g.up = true) : ∀ n, ∃ R : List Rep, R.length = n ∧ (cG n).foldl Eng.rc g = { g with txn := fun i => if i < n then none else g.txn i, replies := g.replies ++ R }
  | 0 => ⟨[], rfl, Eng.ext' rfl rfl rfl rfl rfl (funext fun i => by show g.txn i = if i < 0 then none else g.txn i; rw [zZa (Nat.not_lt_zero i)]) rfl rfl (by simp [cG])⟩
  | n + 1 => by
    obtain ⟨R, hR, e⟩ := FJ h hu n
    have e2 : cG (n + 1) = cG n ++ [.rq n 7 rq0] := by unfold cG; rw [List.range_succ, List.map_append]; rfl
    rw [e2, List.foldl_append, e]
    have hw : g.waits n = false := by rw [h.waits]
    have e3 : ∀ z : Eng, z.up = true → z.waits n = false → [Rc.rq n 7 rq0].foldl Eng.rc z = match z.txn n with | none => z.reply (fQ n 6) | some t => (z.setTxn n none).reply (fQ n 0) := by
      intro z h1 h2
      rw [List.foldl_cons, List.foldl_nil]
      unfold Eng.rc
      simp only
      rw [zZb h1]
      unfold Eng.req
      rw [zZa (by decide), h2, zZa (by decide)]
      cases z.txn n with
      | none => simp only; rw [zZa (by decide)]
      | some t => simp only; rw [zZa (by decide), zZb trivial]
    rw [e3 _ (by exact hu) (by exact hw)]
    simp only [Nat.lt_irrefl, if_false]
    cases ht : g.txn n with
    | none =>
      refine ⟨R ++ [fQ n 6], by simp [hR], ?_⟩
      simp only
      refine Eng.ext' rfl rfl rfl rfl rfl (funext fun i => ?_) rfl rfl (zZl _ _ _)
      show (if i < n then none else g.txn i) = if i < n + 1 then none else g.txn i
      by_cases c : i = n
      · subst c; simp [ht]
      · by_cases d : i < n
        · rw [zZb d, zZb (by omega)]
        · rw [zZa d, zZa (by omega)]
    | some t =>
      refine ⟨R ++ [fQ n 0], by simp [hR], ?_⟩
      simp only
      refine Eng.ext' rfl rfl rfl rfl rfl (funext fun i => ?_) rfl rfl (zZl _ _ _)
      show qM (fun i => if i < n then none else g.txn i) n none i = if i < n + 1 then none else g.txn i
      by_cases c : i = n
      · subst c; rw [lP, zZb (by omega)]
      · rw [jZ _ c]
        by_cases d : i < n
        · rw [zZb d, zZb (by omega)]
        · rw [zZa d, zZa (by omega)]
theorem Bp {m : Nat} {g : Eng} (ho : EngOk m g) (hb : EngB g) : ∃ (z : Eng) (A B : List Rep), z.replies = [] ∧ (g.sync.crash 0).start = z.pre A ∧ (cG 8).foldl Eng.rc g.sync.start = z.pre B := by
 have h := Still.sync ho hb
 have h2 := h.start
 obtain ⟨R, hR, e⟩ := FJ h2 rfl 8
 refine ⟨{ g.sync.start with txn := fun _ => none, replies := [] }, g.sync.replies, g.sync.replies ++ R, rfl, ?_, ?_⟩
 rw [h.crash_is 0]
 exact Eng.ext' rfl rfl rfl rfl rfl rfl rfl rfl (by show g.sync.replies = g.sync.replies ++ []; simp)
 rw [e]
 refine Eng.ext' rfl rfl rfl rfl rfl (funext fun i => ?_) rfl rfl (by show g.sync.replies ++ R = (g.sync.replies ++ R) ++ []; simp)
 show (if i < 8 then none else g.sync.txn i) = none
 split
 rfl
 exact h.b.txn i (by omega)
open Go.ChangeShapes Go.WideShapes Go.ChangeAt Go.RowKit Go.Deep
def I64 (z : Int) : Prop := -9223372036854775808 ≤ z ∧ z ≤ 9223372036854775807
structure Ge where
  kind : Int
  session : Int
  name : Int
  key : Int
  value : Int
def Fj (g : Ge) : Prop := I64 g.kind ∧ I64 g.session ∧ I64 g.name ∧ I64 g.key ∧ I64 g.value
def GeC (F : Fz) (cs : List Value) (g : Ge) : Prop := cs = [.int .i64 g.kind, .int .i64 g.session, .int .i64 g.name, .int .i64 g.key, .int .i64 g.value] ∧ Fj g
theorem GeC.mono (F F' : Fz) (x : List Value) (p : Ge) (hl : Le F F') (h : GeC F x p) : GeC F' x p := h
def Ges (F : Fz) (v : Value) (l : List Ge) : Prop := Sl 5 GeC F v l
theorem Ges.mono {F F' : Fz} {v : Value} {l : List Ge} (h : Ges F v l) (hl : Le F F') : Ges F' v l := Sl.mono GeC.mono h hl
theorem Ges.get {F : Fz} {a : Option Addr} {n c : Nat} {l : List Ge} (h : Ges F (.slice a n c) l) {i : Nat} {g : Ge} (hz : l[i]? = some g) :
    ∃ b o, a = some ⟨b, o, none⟩ ∧ (∀ (j : Nat) v, [Value.int .i64 g.kind, .int .i64 g.session, .int .i64 g.name, .int .i64 g.key, .int .i64 g.value][j]? = some v → cS F b (o + i * 5 + j) = some v) ∧ Fj g := by
 obtain ⟨hi, rfl⟩ := List.getElem?_eq_some_iff.1 hz
 have hn := h.len
 obtain ⟨b, o, e, h1⟩ := Sl.at h (by omega) (by omega)
 obtain ⟨cs, q1, ⟨rfl, r1⟩, q4⟩ := h1 i hi
 refine ⟨b, o, e, fun j v hv => ?_, r1⟩
 obtain ⟨hj, e⟩ := List.getElem?_eq_some_iff.1 hv
 have := q4 j (by simpa using hj)
 rw [← e]; simpa [Nat.add_assoc] using this
section
variable {H : Type} {enc : TypeId × Value → H} {P : Program} {w : World}
theorem Jg {α : Type} {cs : List α} (h : cs.length = 5) : ∃ a b c d e, cs = [a, b, c, d, e] := by
 match cs, h with
 | [a, b, c, d, e], _ => exact ⟨a, b, c, d, e, rfl⟩
theorem OS {t e it : TypeId} {f0 f1 f2 f3 f4 : Field} {fuel : Nat} {v : Value} {x : DataW H × List MemPlace} (ht : P.underlying t = some (.slice e)) (hs : P.underlying e = some (.struct #[f0, f1, f2, f3, f4])) (hone : oneCellFields P #[f0, f1, f2, f3, f4] = true) (hC : P.cellsOf e = 5)
    (e0 : f0.type = it) (e1 : f1.type = it) (e2 : f2.type = it) (e3 : f3.type = it) (e4 : f4.type = it) (hi : P.underlying it = some (.int .i64))
    (h : DataW.trod enc P w 0 (fun _ => true) true fuel t [v] = some x) : ∃ l : List Ge, Ges (whole w) v l :=
  XL (α := Ge) (k := 5) (R := GeC) ht hC (by omega) h (fun n cs y hl hy => by
    obtain ⟨c0, c1, c2, c3, c4, rfl⟩ := Jg hl
    obtain ⟨xs, m, _, _, _, hlen, hf⟩ := DataW.trod_struct hs hy
    obtain ⟨o0, k0⟩ := hone_of hone 0 f0 rfl
    obtain ⟨o1, k1⟩ := hone_of hone 1 f1 rfl
    obtain ⟨o2, k2⟩ := hone_of hone 2 f2 rfl
    obtain ⟨o3, k3⟩ := hone_of hone 3 f3 rfl
    obtain ⟨o4, k4⟩ := hone_of hone 4 f4 rfl
    match xs, hlen with
    | [y0, y1, y2, y3, y4], _ =>
      have h0 := hf 0 f0 rfl
      have h1 := hf 1 f1 rfl
      have h2 := hf 2 f2 rfl
      have h3 := hf 3 f3 rfl
      have h4 := hf 4 f4 rfl
      rw [o0, k0] at h0
      rw [o1, k1] at h1
      rw [o2, k2] at h2
      rw [o3, k3] at h3
      rw [o4, k4] at h4
      simp only [List.drop_zero, List.drop_succ_cons, List.take_succ_cons, List.take_zero] at h0 h1 h2 h3 h4
      rw [e0] at h0
      rw [e1] at h1
      rw [e2] at h2
      rw [e3] at h3
      rw [e4] at h4
      have one : ∀ {n c y}, DataW.trod enc P w 0 (fun _ => true) true n it [c] = some y → ∃ z, c = .int .i64 z ∧ I64 z := fun h => by
        obtain ⟨z, hz, _, hwf⟩ := DataW.trod_int hi h
        have hb := bounds_i64 hwf
        exact ⟨z, by simpa using hz, by omega, by omega⟩
      obtain ⟨z0, rfl, b0⟩ := one h0
      obtain ⟨z1, rfl, b1⟩ := one h1
      obtain ⟨z2, rfl, b2⟩ := one h2
      obtain ⟨z3, rfl, b3⟩ := one h3
      obtain ⟨z4, rfl, b4⟩ := one h4
      exact ⟨⟨z0, z1, z2, z3, z4⟩, rfl, b0, b1, b2, b3, b4⟩)
end
def bS (n : Int) (m : Nat) : Nat := (pick n m).toNat
theorem Bq (n : Int) {m : Nat} (h : 1 ≤ m) : pick n m = ((bS n m : Nat) : Int) := by have := SG n m (by omega); unfold bS; omega
theorem kB (n : Int) {m : Nat} (h : 1 ≤ m) : bS n m < m := by have := SG n m (by omega); unfold bS; omega
def wB (g : Ge) : By := [iG ((97 + bS g.name 3 : Nat) : Int)]
def BL (z : Int) : By := [iG ((107 + bS z 5 : Nat) : Int)]
def BM (k : Nat) (g : Ge) : Nat × Rq :=
  if k < 4 then (1, rq0) else if k < 7 then (2, ⟨wB g, BL g.key, [], []⟩) else if k = 7 then (3, ⟨wB g, BL g.key, BL g.value, []⟩)
  else if k < 12 then (4, ⟨wB g, BL g.key, [], [iG ((bS g.value 50 : Nat) : Int)]⟩) else if k = 12 then (5, ⟨wB g, BL g.key, [], []⟩)
  else if k < 17 then (6, rq0) else if k = 17 then (7, rq0) else (8, ⟨wB g, BL g.key, [], []⟩)
def kH (g : Ge) : Nat × Rq := BM (bS g.kind 20) g
theorem Fk (k : Nat) (g : Ge) : RqOk (BM k g).1 (BM k g).2 := by
 unfold BM
 split
 ·exact ⟨(by decide : 1 ≤ 1 ∧ 1 ≤ 8), by kernel_rfl⟩
 split
 ·exact ⟨(by decide : 1 ≤ 2 ∧ 2 ≤ 8), by kernel_rfl⟩
 split
 ·exact ⟨(by decide : 1 ≤ 3 ∧ 3 ≤ 8), by kernel_rfl⟩
 split
 ·exact ⟨(by decide : 1 ≤ 4 ∧ 4 ≤ 8), by kernel_rfl⟩
 split
 ·exact ⟨(by decide : 1 ≤ 5 ∧ 5 ≤ 8), by kernel_rfl⟩
 split
 ·exact ⟨(by decide : 1 ≤ 6 ∧ 6 ≤ 8), by kernel_rfl⟩
 split
 ·exact ⟨(by decide : 1 ≤ 7 ∧ 7 ≤ 8), by kernel_rfl⟩
 ·exact ⟨(by decide : 1 ≤ 8 ∧ 8 ≤ 8), by kernel_rfl⟩
theorem UM (g : Ge) : RqOk (kH g).1 (kH g).2 := Fk _ g
def kI (g : Ge) : Ac :=
  if bS g.kind 26 = 20 then .sync else if bS g.kind 26 = 21 then .sync else if bS g.kind 26 = 22 then .sync
  else if bS g.kind 26 = 23 then .crash (bS g.value 80) else if bS g.kind 26 = 24 then .start
  else if bS g.kind 26 = 25 then .ask (bS g.session 8) [iG g.value, iG g.key]
  else .ask (bS g.session 8) (mW (kH g).1 (kH g).2)
theorem Fl (g : Ge) : pL (kI g) := by
 have h8 := kB g.session (m := 8) (by decide)
 have a0 := kB g.value (m := 80) (by decide)
 unfold kI
 split
 ·trivial
 split
 ·trivial
 split
 ·trivial
 split
 ·show bS g.value 80 ≤ 100000; omega
 split
 ·trivial
 split
 ·exact ⟨h8, (by decide : 2 ≤ 4000)⟩
 ·exact UL (a := .rq _ _ _) ⟨h8, UM g⟩
def aL (l : List Ge) (m : Nat) : List Ac := (l.take m).map kI
theorem bK (l : List Ge) (m : Nat) : (aL l m).length ≤ m := by simp [aL]; omega
theorem LF {l : List Ge} {i : Nat} {g : Ge} (h : l[i]? = some g) : aL l i ++ [kI g] = aL l (i + 1) := by
 obtain ⟨hk, rfl⟩ := List.getElem?_eq_some_iff.1 h
 unfold aL
 rw [List.take_succ_eq_append_getElem hk, List.map_append]; rfl
theorem AS {l : List Ge} {i m : Nat} (h : l.length ≤ i) (hm : i ≤ m) : aL l i = aL l m := by
 unfold aL; rw [List.take_of_length_le h, List.take_of_length_le (by omega)]
theorem wX (l : List Ge) (m : Nat) : ∀ a ∈ aL l m, pL a := by
 intro a ha
 obtain ⟨g, _, rfl⟩ := List.mem_map.1 ha
 exact Fl g
theorem XH (l : List Ac) : fK l ≤ l.length := by
 induction l with
 | nil => exact zZe _
 | cons a l ih =>
  have e : fK (a :: l) = (if isC a then 1 else 0) + fK l := by simp [fK]
  rw [e, zZg]
  split <;> omega
section
variable {P : Program} {w0 w w' : World} {F0 F : Fz} {L : List Blk} {M : List RowP} {α : Type} {k E : Nat} {R : Fz → List Value → α → Prop} {hR : ∀ F F' x p, Le F F' → R F x p → R F' x p} {v : Value} {l : List α}
end
theorem IN {α : Type} {F F' : Fz} {R : Fz → List Value → α → Prop} (hR : ∀ F F' x p, Le F F' → R F x p → R F' x p) (hl : Le F F') : ∀ {el : List (List Value)} {l : List α}, AllR (R F) el l → AllR (R F') el l
  | [], [], _ => trivial
  | _ :: _, _ :: _, h => ⟨hR _ _ _ _ hl h.1, IN hR hl h.2⟩
theorem XI {P : Program} {o : Oper} {a : Act} {W w : World} {F F1 : Fz} {α : Type} {k : Nat} {R : Fz → List Value → α → Prop} (hR : ∀ F F' x p, Le F F' → R F x p → R F' x p) {el : List (List Value)} {l : List α} {E : TypeId} (g : Gr W F w F1) (hp : AllR (R F1) el l) (hk : ∀ x ∈ el, x.length = k) (hl : l.length ≤ maxLen)
    (hr : (execOp a.eval o).run P w = .ok (.value (.slice (some ⟨w.heap.size, 0, none⟩) l.length l.length)) (w.alloc (.cells el.flatten.toArray E))) : kO P o a w (kV (Made W F fun F' u => Sl k R F' u l) w) := by
 unfold kO
 rw [hr]
 have g2 := g.new (.cells el.flatten.toArray E)
 have g3 := g2.add (g := w.heap.size) g.below.size
 have hle : Le F1 (addF F1 (w.alloc (.cells el.flatten.toArray E)) w.heap.size) := fun b o hb => uQ _ _ _ _ _ hb
 refine ⟨⟨_, g3, gP (R := R) (l := l) (c := el.flatten) (el := el) (fun j v hj => ?_) rfl (IN hR hle hp) hk hl⟩, (Below.refl _ _).alloc (zZe _) _⟩
 unfold cS addF
 rw [g.sat.out (zZe _)]
 simp only [if_true, heap_alloc_new]
 simpa using hj
theorem OT (n m : Int) (w : World) (h1 : -9223372036854775808 ≤ n) (h2 : n ≤ 9223372036854775807) (hm : 1 ≤ m) (hm2 : m ≤ 10000000) :
    Calls Tryz.prog 20 #[.int .i64 n, .int .i64 m] w (cT w (.int .i64 (pick n m))) := by
 have S := St.start (Sat.whole w)
 go_enter Tryz.func20, Tryz.ntmps20
 refine sk fun K1 hK1 => ?_
 refine dy ?_
 refine wn hK1 ?_
 refine sk fun K2 hK2 => ?_
 refine aC ?_
 refine aJ (v := (.int .i64 (pick n m))) S rfl (fn2 (Gp _ _)) (dL (LL n m _ h1 h2 hm hm2)) (fun w3 S4 => ?_)
 refine dy ?_
 refine wn hK2 ?_
 refine aO ?_
 try simp only [xt]
 refine bR (bA rfl (gD rfl)) ?_
 exact ⟨rfl, S4.gr.below⟩
theorem Ih : zW := fun w0 F0 w F n g L _ k hM hT hg hm hk => XC w0 F0 w F n g L k hM hT hg hm hk
theorem gO (n : Int) (m : Nat) (w : World) (h1 : -9223372036854775808 ≤ n) (h2 : n ≤ 9223372036854775807) (hm : 1 ≤ m) (hm2 : m ≤ 10000000) :
    Calls Tryz.prog 20 #[.int .i64 n, .int .i64 ((m : Nat) : Int)] w (cT w (.int .i64 ((bS n m : Nat) : Int))) := by
 rw [← Bq n hm]
 exact OT n m w h1 h2 (by omega) (by omega)
theorem ReqR.dropF {w : World} {F : Fz} {n : Nat} {cs : List Value} {T : TypeId} (hs : Sat w F) (hb : w.heap[n]? = some (.cells cs.toArray T (0, 0))) (hc : ∀ u ∈ cs, ∀ x, u ≠ bv x) {v : Value} {p : Nat × Rq} (h : ReqR F v p) : ReqR (Proofs.YtilgpdpooildcaaGreatDoor.dropF F n) v p := by
 obtain ⟨a, c, a1, c1, a2, c2, a3, c3, e, r, r1, r2, r3⟩ := h
 exact ⟨a, c, a1, c1, a2, c2, a3, c3, e, Bs.dropF hs hb hc r, Bs.dropF hs hb hc r1, Bs.dropF hs hb hc r2, Bs.dropF hs hb hc r3⟩
theorem LG (F : Fz) (w : World) (g : Ge) (hs : Sat w F) (hg : Fj g) :
    Calls Tryz.prog 19 #[.agg #[.int .i64 g.kind, .int .i64 g.session, .int .i64 g.name, .int .i64 g.key, .int .i64 g.value]] w (dF w F fun F' u => ReqR F' u (kH g)) := by
 have S := St.start hs
 go_enter Tryz.func19, Tryz.ntmps19
 refine aE fun K1 hK1 => ?_
 obtain ⟨⟨b0, b0'⟩, ⟨b1, b1'⟩, ⟨b2, b2'⟩, ⟨b3, b3'⟩, b4, b4'⟩ := hg
 refine aB ?_
 refine bH S (v := fun n => .pointer (aA n 0)) rfl (bX (v := (.agg #[(.int .i64 g.kind), (.int .i64 g.session), (.int .i64 g.name), (.int .i64 g.key), (.int .i64 g.value)])) rfl) (fun n2 w3 S4 => ?_)
 refine sA S4 (xY _) fun n5 w6 S7 => ?_
 refine wlK hK1 ?_
 refine aE fun K8 hK8 => ?_
 have hp2 := kB g.name (m := 3) (by decide)
 have hp3 := kB g.key (m := 5) (by decide)
 obtain ⟨S9, h3, a1⟩ := St.freezeBlk S7 (i := 1) rfl
 generalize addF F w6 n2 = h4 at *
 refine aP h4 14 [(2, .is (nI (bS g.name 3))), (5, .made (fun F' u => Bs F' u [(iG (((97 + (bS g.name 3)) : Nat) : Int))])), (8, .is (nI (bS g.key 5))), (11, .made (fun F' u => Bs F' u [(iG (((107 + (bS g.key 5)) : Nat) : Int))])), (12, .made (fun F' u => ReqR F' u ((0, (⟨[(iG (((97 + (bS g.name 3)) : Nat) : Int))], [(iG (((107 + (bS g.key 5)) : Nat) : Int))], [], []⟩ : Rq)) : Nat × Rq))), (13, .rel (NewAt w6 [(iI 0), Zn, Zn, Zn, Zn] 27) (NewAt.stable _ _ _))] (by kernel_rfl) (by kernel_rfl) ?_
 simp only [dA]
 refine gf (SX _ _) ?_
 refine gv _ (fun _ a0 => aD rfl (aQ (bM _) (St.fz (St.tells S9 a0) (a1 2 _ rfl)))) ?_
 simp only [pq]
 refine fT rfl rfl (v := (nI (bS g.name 3))) (fun b7 a0 _ => bQ (cB (vs := #[(.int .i64 g.name), (iI 3)]) (gK rfl rfl) rfl (sE _ _)) (fE (gO g.name 3 _ (by omega) (by omega) (by decide) (by decide)))) ?_
 refine gv (nI (97 + (bS g.name 3))) (fun _ _ => gG (m := (97 : Int)) (n := (((bS g.name 3) : Nat) : Int)) (r := (((97 + (bS g.name 3)) : Nat) : Int)) rfl rfl (by omega) (by omega) (by omega)) ?_
 refine gv (.int .u8 (((iG (((97 + (bS g.name 3)) : Nat) : Int)).toNat : Nat) : Int)) (fun _ _ => aU (v := (nI (97 + (bS g.name 3)))) rfl (vR (((97 + (bS g.name 3)) : Nat) : Int) _)) ?_
 simp only [pq]
 refine eE rfl rfl (fun b7 a0 _ => IM (b := (iG (((97 + (bS g.name 3)) : Nat) : Int))) (Gr.of_below S9.sat a0) (cN (ps := #[(0, (.int .u8 (((iG (((97 + (bS g.name 3)) : Nat) : Int)).toNat : Nat) : Int)))]) (cells := #[(.int .u8 (((iG (((97 + (bS g.name 3)) : Nat) : Int)).toNat : Nat) : Int))]) (E := 5) (cZ rfl) (fun w => by kernel_rfl))) (fun m9 => ?_)
 refine gf (JL _ _) ?_
 refine gv _ (fun _ a0 => aD rfl (aQ (bM _) (St.fz (St.tells S9 a0) (a1 3 _ rfl)))) ?_
 simp only [pq]
 refine fT rfl rfl (v := (nI (bS g.key 5))) (fun b7 a0 _ => bQ (cB (vs := #[(.int .i64 g.key), (iI 5)]) (gK rfl rfl) rfl (sE _ _)) (fE (gO g.key 5 _ (by omega) (by omega) (by decide) (by decide)))) ?_
 refine gv (nI (107 + (bS g.key 5))) (fun _ _ => gG (m := (107 : Int)) (n := (((bS g.key 5) : Nat) : Int)) (r := (((107 + (bS g.key 5)) : Nat) : Int)) rfl rfl (by omega) (by omega) (by omega)) ?_
 refine gv (.int .u8 (((iG (((107 + (bS g.key 5)) : Nat) : Int)).toNat : Nat) : Int)) (fun _ _ => aU (v := (nI (107 + (bS g.key 5)))) rfl (vR (((107 + (bS g.key 5)) : Nat) : Int) _)) ?_
 simp only [pq]
 refine eE rfl rfl (fun b7 a0 _ => IM (b := (iG (((107 + (bS g.key 5)) : Nat) : Int))) (Gr.of_below S9.sat a0) (cN (ps := #[(0, (.int .u8 (((iG (((107 + (bS g.key 5)) : Nat) : Int)).toNat : Nat) : Int)))]) (cells := #[(.int .u8 (((iG (((107 + (bS g.key 5)) : Nat) : Int)).toNat : Nat) : Int))]) (E := 5) (cZ rfl) (fun w => by kernel_rfl))) (fun n0 => ?_)
 simp only [pq]
 refine eE rfl rfl (fun b7 a0 hF_ => ?_) (fun n1 => ?_)
 ·obtain ⟨e3, f9, h5⟩ := hF_.get 5 (by kernel_rfl) rfl rfl
  obtain ⟨e4, g0, h6⟩ := hF_.get 11 (by kernel_rfl) rfl rfl
  have hR1 := (h5.mono (lG e3 e4))
  obtain ⟨h7, h8, rfl, _⟩ := hR1.shape
  have hR2 := (h6.mono (mM f9.sat g0.sat))
  obtain ⟨h9, i0, rfl, _⟩ := hR2.shape
  have hR3 := Bs.nil (both e3 e4)
  have hR4 := Bs.nil (both e3 e4)
  exact iD (aK (fD rfl rfl) (by kernel_rfl)) ⟨(both e3 e4), (f9.both g0), ⟨_, _, _, _, _, _, _, _, rfl, hR1, hR2, hR3, hR4⟩⟩ (Below.refl _ _)
 simp only [pq]
 refine eE rfl rfl (fun b7 a0 _ => jU (cs := [(iI 0), Zn, Zn, Zn, Zn]) (xY _) rfl a0) (fun n3 => ?_)
 refine bU ?_
 intro n4 i1 a8
 obtain ⟨i2, rfl, b9, c0⟩ := a8.getR 13 rfl rfl
 have a9 : ∀ u ∈ [(.int .i64 0), (.slice none 0 0), (.slice none 0 0), (.slice none 0 0), (.slice none 0 0)], ∀ x, u ≠ bv x := by intro u hu x; simp only [zZk, List.not_mem_nil, or_false] at hu; rcases hu with rfl | rfl | rfl | rfl | rfl <;> (unfold bv; simp)
 obtain ⟨i3, g1, i4⟩ := a8.get 12 rfl rfl
 have g2 := g1.dropF S9.sat b9
 have i5 := ReqR.dropF g1.sat c0 a9 i4
 have i6 := St.addBlk (cs := [(.int .i64 0), (.slice none 0 0), (.slice none 0 0), (.slice none 0 0), (.slice none 0 0)]) S9 g2 b9 (oX _ _) c0
 have b5 : Le _ _ := g2.le S9.sat
 have i7 := i5
 generalize (dropF i3 i2) = g3 at *
 obtain ⟨i8, i9, j0, j1, j2, j3, j4, j5, rfl, c1, c2, e5, e6⟩ := i7
 clear a8
 simp only [dB]
 refine sW 0 i6 (bG) fun n6 g4 => ?_
 simp only [pq]
 refine wlK hK8 ?_
 refine aE fun n7 a2 => ?_
 refine sk fun n8 e7 => ?_
 refine df (JJ _ _) ?_
 refine dr _ (aD rfl (aQ (bM _) (St.fz g4 (Le.cell b5 (a1 0 _ rfl))))) ?_
 simp only [pq]
 have j6 := kB g.kind (m := 20) (by decide)
 refine aJ (v := (nI (bS g.kind 20))) g4 rfl (fn2 (sE _ _)) (gO g.kind 20 _ (by omega) (by omega) (by decide) (by decide)) (fun n9 a4 => ?_)
 refine dy ?_
 refine wn e7 ?_
 refine aN ?_
 refine sk fun o0 c3 => ?_
 refine dx ?_
 simp only [pq]
 by_cases j7 : (bS g.kind 20) < 4
 ·refine eS ?_
  refine dy ?_
  refine wn c3 ?_
  refine aI ?_
  refine sk fun o1 e8 => ?_
  refine dr (.agg #[(iI 1), Zn, Zn, Zn, Zn]) (aK (cZ rfl) (by kernel_rfl)) ?_
  simp only [pq]
  refine sW 1 a4 (bG) fun o2 g5 => ?_
  refine wn e8 ?_
  refine aO ?_
  try simp only [xt]
  refine bR (lJ rfl ⟨_, rfl, lR g5 1 Tryz.underlying27 (bG)⟩) ?_
  ·have e : kH g = (1, rq0) := by
    unfold kH BM
    rw [zZb (by omega)]
   refine ⟨_, _, rfl, g5.gr, ?_⟩
   rw [e]
   exact ⟨_, _, _, _, _, _, _, _, rfl, Bs.nil _, Bs.nil _, Bs.nil _, Bs.nil _⟩
 ·refine eM ?_
  refine dy ?_
  simp only [pq]
  refine wn c3 ?_
  refine aF ?_
  refine sk fun o3 c4 => ?_
  refine dx ?_
  simp only [pq]
  by_cases j8 : (bS g.kind 20) < 7
  ·refine eS ?_
   refine dy ?_
   refine wn c4 ?_
   refine aI ?_
   refine aB ?_
   refine aC ?_
   refine sW 0 a4 (qK) fun o4 g6 => ?_
   refine wlK a2 ?_
   refine sk fun o5 e9 => ?_
   refine dR g6 0 Tryz.underlying27 (bG) ?_
   refine sW 1 g6 (bG) fun o6 g7 => ?_
   simp only [pq]
   refine wn e9 ?_
   refine aO ?_
   try simp only [xt]
   refine bR (lJ rfl ⟨_, rfl, lR g7 1 Tryz.underlying27 (bG)⟩) ?_
   ·have e : kH g = (2, ⟨wB g, BL g.key, [], []⟩) := by
     unfold kH BM
     rw [zZa (by omega), zZb (by omega)]
    refine ⟨_, _, rfl, g7.gr, ?_⟩
    rw [e]
    exact ⟨_, _, _, _, _, _, _, _, rfl, c1, c2, e5, e6⟩
  ·refine eM ?_
   refine dy ?_
   refine wn c4 ?_
   refine aF ?_
   refine sk fun o7 c5 => ?_
   refine dx ?_
   simp only [pq]
   by_cases j9 : (bS g.kind 20) = 7
   ·refine iA ?_
    refine dy ?_
    refine wn c5 ?_
    refine aI ?_
    refine sk fun o8 f0 => ?_
    refine aC ?_
    refine sW 0 a4 (qK) fun o9 g8 => ?_
    refine wn f0 ?_
    refine aB ?_
    refine df (yD _ _) ?_
    refine dr _ (aD rfl (aQ (bM _) (St.fz g8 (Le.cell b5 (a1 4 _ rfl))))) ?_
    simp only [pq]
    have k0 := kB g.value (m := 5) (by decide)
    refine aJ (v := (nI (bS g.value 5))) g8 rfl (fn2 (sE _ _)) (gO g.value 5 _ (by omega) (by omega) (by decide) (by decide)) (fun p0 k1 => ?_)
    refine cR (107 + (bS g.value 5)) ?_
    refine dr (.int .u8 (((iG (((107 + (bS g.value 5)) : Nat) : Int)).toNat : Nat) : Int)) (aU (v := (nI (107 + (bS g.value 5)))) rfl (vR (((107 + (bS g.value 5)) : Nat) : Int) _)) ?_
    refine bH k1 (v := fun n => .slice (aA n 0) 1 1) rfl (cN (ps := #[(0, (.int .u8 (((iG (((107 + (bS g.value 5)) : Nat) : Int)).toNat : Nat) : Int)))]) (cells := #[(.int .u8 (((iG (((107 + (bS g.value 5)) : Nat) : Int)).toNat : Nat) : Int))]) (E := 5) (cZ rfl) (fun w => by kernel_rfl)) (fun g9 p1 k2 => ?_)
    refine aC ?_
    refine sW 1 k2 (kX) fun p2 h0 => ?_
    refine wlK a2 ?_
    refine sk fun p3 f1 => ?_
    refine dR h0 1 Tryz.underlying27 (bG) ?_
    simp only [pq]
    refine sW 2 h0 (bG) fun k3 h1 => ?_
    refine wn f1 ?_
    refine aO ?_
    try simp only [xt]
    refine bR (lJ rfl ⟨_, rfl, lR h1 2 Tryz.underlying27 (bG)⟩) ?_
    ·obtain ⟨k4, b6, f2⟩ := St.freezeBlk h1 (i := 0) rfl
     have k5 : Bs _ (.slice (some ⟨g9, 0, none⟩) 1 1) ([iG (((107 + (bS g.value 5)) : Nat) : Int)] : By) := lK (l := ([iG (((107 + (bS g.value 5)) : Nat) : Int)] : By)) f2 (rfl) (by unfold maxLen; simp)
     generalize addF g3 k3 g9 = p4 at *
     have e : kH g = (3, ⟨wB g, BL g.key, BL g.value, []⟩) := by
      unfold kH BM
      rw [zZa (by omega), zZa (by omega), zZb (by omega)]
     refine ⟨_, _, rfl, k4.gr, ?_⟩
     rw [e]
     exact ⟨_, _, _, _, _, _, _, _, rfl, (c1.mono b6), (c2.mono b6), k5, (e6.mono b6)⟩
   ·refine gH ?_
    refine dy ?_
    simp only [pq]
    refine wn c5 ?_
    refine aF ?_
    refine sk fun p5 c6 => ?_
    refine dx ?_
    simp only [pq]
    by_cases k6 : (bS g.kind 20) < 12
    ·refine eS ?_
     refine dy ?_
     refine wn c6 ?_
     refine aI ?_
     refine sk fun p6 f3 => ?_
     refine aC ?_
     refine sW 0 a4 (qK) fun k7 c7 => ?_
     refine wn f3 ?_
     refine aB ?_
     refine df (yD _ _) ?_
     refine dr _ (aD rfl (aQ (bM _) (St.fz c7 (Le.cell b5 (a1 4 _ rfl))))) ?_
     simp only [pq]
     have h2 := kB g.value (m := 50) (by decide)
     refine aJ (v := (nI (bS g.value 50))) c7 rfl (fn2 (sE _ _)) (gO g.value 50 _ (by omega) (by omega) (by decide) (by decide)) (fun k8 f4 => ?_)
     refine dr (.int .u8 (((iG (((bS g.value 50) : Nat) : Int)).toNat : Nat) : Int)) (aU (v := (nI (bS g.value 50))) rfl (vR (((bS g.value 50) : Nat) : Int) _)) ?_
     refine bH f4 (v := fun n => .slice (aA n 0) 1 1) rfl (cN (ps := #[(0, (.int .u8 (((iG (((bS g.value 50) : Nat) : Int)).toNat : Nat) : Int)))]) (cells := #[(.int .u8 (((iG (((bS g.value 50) : Nat) : Int)).toNat : Nat) : Int))]) (E := 5) (cZ rfl) (fun w => by kernel_rfl)) (fun c8 k9 f5 => ?_)
     refine aC ?_
     refine sW 1 f5 (kX) fun l0 c9 => ?_
     refine wlK a2 ?_
     refine sk fun l1 d0 => ?_
     refine dR c9 1 Tryz.underlying27 (bG) ?_
     simp only [pq]
     refine sW 2 c9 (bG) fun f6 d1 => ?_
     refine wn d0 ?_
     refine aO ?_
     try simp only [xt]
     refine bR (lJ rfl ⟨_, rfl, lR d1 2 Tryz.underlying27 (bG)⟩) ?_
     ·obtain ⟨f7, a3, d2⟩ := St.freezeBlk d1 (i := 0) rfl
      have f8 : Bs _ (.slice (some ⟨c8, 0, none⟩) 1 1) ([iG (((bS g.value 50) : Nat) : Int)] : By) := lK (l := ([iG (((bS g.value 50) : Nat) : Int)] : By)) d2 (rfl) (by unfold maxLen; simp)
      generalize addF g3 f6 c8 = l2 at *
      have e : kH g = (4, ⟨wB g, BL g.key, [], [iG ((bS g.value 50 : Nat) : Int)]⟩) := by
       unfold kH BM
       rw [zZa (by omega), zZa (by omega), zZa (by omega), zZb (by omega)]
      refine ⟨_, _, rfl, f7.gr, ?_⟩
      rw [e]
      exact ⟨_, _, _, _, _, _, _, _, rfl, (c1.mono a3), (c2.mono a3), (e5.mono a3), f8⟩
    ·refine eM ?_
     refine aC ?_
     refine wn c6 ?_
     refine aF ?_
     refine sk fun l3 a5 => ?_
     refine aC ?_
     by_cases l4 : (bS g.kind 20) = 12
     ·refine iA ?_
      refine dy ?_
      refine wn a5 ?_
      refine aI ?_
      refine aB ?_
      refine aC ?_
      refine sW 0 a4 (qK) fun l5 d3 => ?_
      refine wlK a2 ?_
      refine sk fun l6 d4 => ?_
      refine dR d3 0 Tryz.underlying27 (bG) ?_
      refine sW 1 d3 (bG) fun l7 d5 => ?_
      simp only [pq]
      refine wn d4 ?_
      refine aO ?_
      try simp only [xt]
      refine bR (lJ rfl ⟨_, rfl, lR d5 1 Tryz.underlying27 (bG)⟩) ?_
      ·have e : kH g = (5, ⟨wB g, BL g.key, [], []⟩) := by
        unfold kH BM
        rw [zZa (by omega), zZa (by omega), zZa (by omega), zZa (by omega), zZb (by omega)]
       refine ⟨_, _, rfl, d5.gr, ?_⟩
       rw [e]
       exact ⟨_, _, _, _, _, _, _, _, rfl, c1, c2, e5, e6⟩
     ·refine gH ?_
      refine dy ?_
      refine wn a5 ?_
      refine aF ?_
      refine sk fun l8 a6 => ?_
      refine aC ?_
      by_cases l9 : (bS g.kind 20) < 17
      ·refine eS ?_
       refine dy ?_
       refine wn a6 ?_
       refine aI ?_
       refine sk fun m0 d6 => ?_
       refine dr (.agg #[(iI 6), Zn, Zn, Zn, Zn]) (aK (cZ rfl) (by kernel_rfl)) ?_
       simp only [pq]
       refine sW 1 a4 (bG) fun m1 d7 => ?_
       refine wn d6 ?_
       refine aO ?_
       try simp only [xt]
       refine bR (lJ rfl ⟨_, rfl, lR d7 1 Tryz.underlying27 (bG)⟩) ?_
       ·have e : kH g = (6, rq0) := by
         unfold kH BM
         rw [zZa (by omega), zZa (by omega), zZa (by omega), zZa (by omega), zZa (by omega), zZb (by omega)]
        refine ⟨_, _, rfl, d7.gr, ?_⟩
        rw [e]
        exact ⟨_, _, _, _, _, _, _, _, rfl, Bs.nil _, Bs.nil _, Bs.nil _, Bs.nil _⟩
      ·refine eM ?_
       refine aC ?_
       refine wn a6 ?_
       refine aF ?_
       refine sk fun m2 a7 => ?_
       refine aC ?_
       by_cases m3 : (bS g.kind 20) = 17
       ·refine iA ?_
        refine dy ?_
        refine wn a7 ?_
        refine aI ?_
        refine sk fun m4 d8 => ?_
        refine dr (.agg #[(iI 7), Zn, Zn, Zn, Zn]) (aK (cZ rfl) (by kernel_rfl)) ?_
        simp only [pq]
        refine sW 1 a4 (bG) fun m5 d9 => ?_
        refine wn d8 ?_
        refine aO ?_
        try simp only [xt]
        refine bR (lJ rfl ⟨_, rfl, lR d9 1 Tryz.underlying27 (bG)⟩) ?_
        ·have e : kH g = (7, rq0) := by
          unfold kH BM
          rw [zZa (by omega), zZa (by omega), zZa (by omega), zZa (by omega), zZa (by omega), zZa (by omega), zZb (by omega)]
         refine ⟨_, _, rfl, d9.gr, ?_⟩
         rw [e]
         exact ⟨_, _, _, _, _, _, _, _, rfl, Bs.nil _, Bs.nil _, Bs.nil _, Bs.nil _⟩
       ·refine gH ?_
        refine aC ?_
        refine wn a7 ?_
        refine aF ?_
        refine aB ?_
        refine df (mB _ _) ?_
        refine sW 0 a4 (qK) fun m6 e0 => ?_
        refine wlK a2 ?_
        refine sk fun m7 e1 => ?_
        refine dR e0 0 Tryz.underlying27 (bG) ?_
        simp only [pq]
        refine sW 1 e0 (bG) fun m8 e2 => ?_
        refine wn e1 ?_
        refine aO ?_
        try simp only [xt]
        refine bR (lJ rfl ⟨_, rfl, lR e2 1 Tryz.underlying27 (bG)⟩) ?_
        ·have e : kH g = (8, ⟨wB g, BL g.key, [], []⟩) := by
          unfold kH BM
          rw [zZa (by omega), zZa (by omega), zZa (by omega), zZa (by omega), zZa (by omega), zZa (by omega), zZa (by omega)]
         refine ⟨_, _, rfl, e2.gr, ?_⟩
         rw [e]
         exact ⟨_, _, _, _, _, _, _, _, rfl, c1, c2, e5, e6⟩
theorem RX {P : Program} {o : Oper} {a : Act} {W w : World} {F F1 : Fz} {b c : UInt8} {E : TypeId} (g : Gr W F w F1)
    (hr : (execOp a.eval o).run P w = .ok (.value (.slice (some ⟨w.heap.size, 0, none⟩) 2 2)) (w.alloc (.cells #[bv b, bv c] E))) : kO P o a w (kV (Made W F fun F' u => Bs F' u [b, c]) w) := by
 have h := XI (R := ByC) ByC.mono (l := [b, c]) (el := [[bv b], [bv c]]) (k := 1) g ⟨rfl, rfl, trivial⟩ (by simp) (by unfold maxLen; simp) hr
 unfold kO at h ⊢
 rw [hr] at h ⊢
 obtain ⟨⟨F', h2, h3⟩, h4⟩ := h
 exact ⟨⟨F', h2, eF h3⟩, h4⟩
theorem Br (F : Fz) (w : World) (g : Ge) (hs : Sat w F) (hT : Has w ∧ Tabs w) (hg : Fj g) :
    Calls Tryz.prog 37 #[.agg #[.int .i64 g.kind, .int .i64 g.session, .int .i64 g.name, .int .i64 g.key, .int .i64 g.value]] w (dF w F fun F' u => AcV F' u (kI g)) := by
 have S := St.start hs
 go_enter Tryz.func37, Tryz.ntmps37
 refine aE fun h8 b9 => ?_
 have hg_ := hg
 obtain ⟨⟨b0, b0'⟩, ⟨b1, b1'⟩, ⟨b2, b2'⟩, ⟨b3, b3'⟩, b4, b4'⟩ := hg_
 refine aB ?_
 refine bH S (v := fun n => .pointer (aA n 0)) rfl (bX (v := (.agg #[(.int .i64 g.kind), (.int .i64 g.session), (.int .i64 g.name), (.int .i64 g.key), (.int .i64 g.value)])) rfl) (fun f5 h9 f6 => ?_)
 refine sA f6 (xX _) fun i0 f7 f8 => ?_
 refine wlK b9 ?_
 refine aE fun i1 c0 => ?_
 refine aE fun i2 c1 => ?_
 obtain ⟨c2, h1, a1⟩ := St.freezeBlk f8 (i := 1) rfl
 generalize addF F f7 f5 = c3 at *
 refine aB ?_
 refine df (JJ _ _) ?_
 refine dr _ (aD rfl (aQ (bM _) (St.fz c2 (a1 0 _ rfl)))) ?_
 simp only [pq]
 have h2 := kB g.kind (m := 26) (by decide)
 refine aJ (v := (nI (bS g.kind 26))) c2 rfl (fn2 (sE _ _)) (gO g.kind 26 _ (by omega) (by omega) (by decide) (by decide)) (fun i3 a0 => ?_)
 refine wlK c1 ?_
 refine aN ?_
 refine aE fun i4 a3 => ?_
 refine sk fun i5 a5 => ?_
 by_cases hc7 : (bS g.kind 26) = 20
 ·refine iA ?_
  refine dy ?_
  refine wn a5 ?_
  refine aI ?_
  refine aH ?_
  refine a3 _ _ ?_
  refine aI ?_
  refine sk fun i6 c4 => ?_
  refine dr (.agg #[(iI 2), (iI 0), (iI 0), Zn]) (aK (cZ rfl) (by kernel_rfl)) ?_
  simp only [pq]
  refine sW 0 a0 (fC) fun i7 c5 => ?_
  refine wn c4 ?_
  refine aO ?_
  try simp only [xt]
  refine bR (lJ rfl ⟨_, rfl, lR c5 0 Tryz.underlying33 (fC)⟩) ?_
  ·have e : kI g = .sync := by
    unfold kI
    rw [zZb (by omega)]
   refine ⟨_, _, rfl, c5.gr, ?_⟩
   rw [e]
   exact ⟨_, _, rfl, Bs.nil _⟩
 ·refine gH ?_
  refine dy ?_
  simp only [pq]
  refine wn a5 ?_
  refine aF ?_
  refine sk fun i8 a6 => ?_
  by_cases hc8 : (bS g.kind 26) = 21
  ·refine iA ?_
   refine dy ?_
   refine wn a6 ?_
   refine aI ?_
   refine aH ?_
   refine a3 _ _ ?_
   refine aI ?_
   refine sk fun i9 c6 => ?_
   refine dr (.agg #[(iI 2), (iI 0), (iI 0), Zn]) (aK (cZ rfl) (by kernel_rfl)) ?_
   simp only [pq]
   refine sW 0 a0 (fC) fun j0 c7 => ?_
   refine wn c6 ?_
   refine aO ?_
   try simp only [xt]
   refine bR (lJ rfl ⟨_, rfl, lR c7 0 Tryz.underlying33 (fC)⟩) ?_
   ·have e : kI g = .sync := by
     unfold kI
     rw [zZa (by omega), zZb (by omega)]
    refine ⟨_, _, rfl, c7.gr, ?_⟩
    rw [e]
    exact ⟨_, _, rfl, Bs.nil _⟩
  ·refine gH ?_
   refine dy ?_
   simp only [pq]
   refine wn a6 ?_
   refine aF ?_
   refine aB ?_
   by_cases hc9 : (bS g.kind 26) = 22
   ·refine iA ?_
    refine dy ?_
    refine wlK a3 ?_
    refine aI ?_
    refine sk fun j1 c8 => ?_
    refine dr (.agg #[(iI 2), (iI 0), (iI 0), Zn]) (aK (cZ rfl) (by kernel_rfl)) ?_
    simp only [pq]
    refine sW 0 a0 (fC) fun j2 c9 => ?_
    refine wn c8 ?_
    refine aO ?_
    try simp only [xt]
    refine bR (lJ rfl ⟨_, rfl, lR c9 0 Tryz.underlying33 (fC)⟩) ?_
    ·have e : kI g = .sync := by
      unfold kI
      rw [zZa (by omega), zZa (by omega), zZb (by omega)]
     refine ⟨_, _, rfl, c9.gr, ?_⟩
     rw [e]
     exact ⟨_, _, rfl, Bs.nil _⟩
   ·refine gH ?_
    refine dy ?_
    simp only [pq]
    refine wlK a3 ?_
    refine aF ?_
    refine sk fun j3 a7 => ?_
    by_cases j4 : (bS g.kind 26) = 23
    ·refine iA ?_
     refine dy ?_
     refine wn a7 ?_
     refine aI ?_
     refine sk fun j5 d0 => ?_
     refine df (yD _ _) ?_
     refine dr _ (aD rfl (aQ (bM _) (St.fz a0 (a1 4 _ rfl)))) ?_
     simp only [pq]
     have h3 := kB g.value (m := 80) (by decide)
     refine aJ (v := (nI (bS g.value 80))) a0 rfl (fn2 (sE _ _)) (gO g.value 80 _ (by omega) (by omega) (by decide) (by decide)) (fun j6 f9 => ?_)
     refine dr (.agg #[(iI 3), (iI 0), (nI (bS g.value 80)), Zn]) (aK (fD rfl rfl) (by kernel_rfl)) ?_
     refine sW 0 f9 (fC) fun j7 d1 => ?_
     refine wn d0 ?_
     refine aO ?_
     try simp only [xt]
     refine bR (lJ rfl ⟨_, rfl, lR d1 0 Tryz.underlying33 (fC)⟩) ?_
     ·have e : kI g = .crash (bS g.value 80) := by
       unfold kI
       rw [zZa (by omega), zZa (by omega), zZa (by omega), zZb (by omega)]
      refine ⟨_, _, rfl, d1.gr, ?_⟩
      rw [e]
      exact ⟨_, _, rfl, Bs.nil _⟩
    ·refine gH ?_
     refine aC ?_
     refine wn a7 ?_
     refine aF ?_
     refine sk fun j8 a8 => ?_
     by_cases j9 : (bS g.kind 26) = 24
     ·refine iA ?_
      refine dy ?_
      refine wn a8 ?_
      refine aI ?_
      refine sk fun k0 d2 => ?_
      refine dr (.agg #[(iI 4), (iI 0), (iI 0), Zn]) (aK (cZ rfl) (by kernel_rfl)) ?_
      simp only [pq]
      refine sW 0 a0 (fC) fun k1 d3 => ?_
      refine wn d2 ?_
      refine aO ?_
      try simp only [xt]
      refine bR (lJ rfl ⟨_, rfl, lR d3 0 Tryz.underlying33 (fC)⟩) ?_
      ·have e : kI g = .start := by
        unfold kI
        rw [zZa (by omega), zZa (by omega), zZa (by omega), zZa (by omega), zZb (by omega)]
       refine ⟨_, _, rfl, d3.gr, ?_⟩
       rw [e]
       exact ⟨_, _, rfl, Bs.nil _⟩
     ·refine gH ?_
      refine aC ?_
      refine wn a8 ?_
      refine aF ?_
      refine sk fun k2 a9 => ?_
      by_cases k3 : (bS g.kind 26) = 25
      ·refine iA ?_
       refine dy ?_
       refine wn a9 ?_
       refine aI ?_
       refine aE fun k4 d4 => ?_
       have hp8 := kB g.session (m := 8) (by decide)
       refine aP c3 10 [(2, .is (nI (bS g.session 8))), (9, .made (fun F' u => Bs F' u [(iG g.value), (iG g.key)]))] (by kernel_rfl) (by kernel_rfl) ?_
       simp only [dA]
       refine gf (JK _ _) ?_
       simp only [pq]
       refine gv _ (fun _ a2 => aD rfl (aQ (bM _) (St.fz (St.tells a0 a2) (a1 1 _ rfl)))) ?_
       simp only [pq]
       refine fT rfl rfl (v := (nI (bS g.session 8))) (fun g0 a2 _ => bQ (cB (vs := #[(.int .i64 g.session), (iI 8)]) (gK rfl rfl) rfl (sE _ _)) (fE (gO g.session 8 _ (by omega) (by omega) (by decide) (by decide)))) ?_
       refine gf (yD _ _) ?_
       refine gv _ (fun _ a2 => aD rfl (aQ (bM _) (St.fz (St.tells a0 a2) (a1 4 _ rfl)))) ?_
       refine gv (.int .u8 (((iG g.value).toNat : Nat) : Int)) (fun _ _ => aU (v := (.int .i64 g.value)) rfl (vR g.value _)) ?_
       simp only [pq]
       refine gf (JL _ _) ?_
       refine gv _ (fun _ a2 => aD rfl (aQ (bM _) (St.fz (St.tells a0 a2) (a1 3 _ rfl)))) ?_
       refine gv (.int .u8 (((iG g.key).toNat : Nat) : Int)) (fun _ _ => aU (v := (.int .i64 g.key)) rfl (vR g.key _)) ?_
       simp only [pq]
       refine eE rfl rfl (fun g0 a2 _ => RX (b := (iG g.value)) (c := (iG g.key)) (Gr.of_below a0.sat a2) (cN (cells := #[(.int .u8 (((iG g.value).toNat : Nat) : Int)), (.int .u8 (((iG g.key).toNat : Nat) : Int))]) (E := 5) (fD rfl rfl) (fun w => by kernel_rfl))) (fun k5 => ?_)
       refine bU ?_
       intro k6 h4 b5
       obtain ⟨g1, d5, g2⟩ := b5.get 9 rfl rfl
       have g3 := St.gives a0 d5
       have h5 : Le _ _ := d5.le a0.sat
       have d6 := g2
       generalize g1 = k7 at *
       obtain ⟨d7, d8, rfl, _⟩ := d6.shape
       clear b5
       simp only [dB]
       refine dr (.agg #[(iI 1), (nI (bS g.session 8)), (iI 0), (.slice d7 [(iG g.value), (iG g.key)].length d8)]) (aK (LY rfl rfl rfl) (by kernel_rfl)) ?_
       simp only [pq]
       refine sW 0 g3 (fC) fun k8 d9 => ?_
       refine wlK d4 ?_
       refine aO ?_
       try simp only [xt]
       refine bR (lJ rfl ⟨_, rfl, lR d9 0 Tryz.underlying33 (fC)⟩) ?_
       ·have e : kI g = .ask (bS g.session 8) [iG g.value, iG g.key] := by
         unfold kI
         rw [zZa (by omega), zZa (by omega), zZa (by omega), zZa (by omega), zZa (by omega), zZb (by omega)]
        refine ⟨_, _, rfl, d9.gr, ?_⟩
        rw [e]
        exact ⟨_, _, rfl, d6⟩
      ·refine gH ?_
       refine aC ?_
       refine wn a9 ?_
       refine aF ?_
       refine aH ?_
       refine c0 _ _ ?_
       refine aE fun k9 e0 => ?_
       have hp8 := kB g.session (m := 8) (by decide)
       refine aP c3 4 [(2, .is (nI (bS g.session 8)))] (by kernel_rfl) (by kernel_rfl) ?_
       simp only [dA]
       refine gf (JK _ _) ?_
       refine gv _ (fun _ a4 => aD rfl (aQ (bM _) (St.fz (St.tells a0 a4) (a1 1 _ rfl)))) ?_
       simp only [pq]
       refine fT rfl rfl (v := (nI (bS g.session 8))) (fun l0 a4 _ => bQ (cB (vs := #[(.int .i64 g.session), (iI 8)]) (gK rfl rfl) rfl (sE _ _)) (fE (gO g.session 8 _ (by omega) (by omega) (by decide) (by decide)))) ?_
       refine gv _ (fun _ a4 => aD rfl (cV Tryz.underlying31 rfl (SW) (zV (c := [(.int .i64 g.kind), (.int .i64 g.session), (.int .i64 g.name), (.int .i64 g.key), (.int .i64 g.value)]) (St.tells a0 a4).sat a1))) ?_
       refine bU ?_
       intro l1 e1 e2
       clear e2
       have e3 := St.tells a0 e1
       simp only [dB]
       refine aR e3 rfl (fn1 (Gl _ _)) (LG _ _ g (e3).sat hg) ?_
       intro l2 l3 l4 b6 h6 g4
       obtain ⟨e4, e5, e6, e7, e8, e9, f0, f1, rfl, g5, g6, g7, g8⟩ := g4
       simp only [pq]
       refine aR b6 rfl (cB (vs := #[(nI (bS g.session 8)), (.agg #[(.int .i64 (((kH g).1 : Nat) : Int)), (.slice e4 ((kH g).2.name).length e5), (.slice e6 ((kH g).2.key).length e7), (.slice e8 ((kH g).2.last).length e9), (.slice f0 ((kH g).2.value).length f1)])]) (gK rfl rfl) rfl (YN _ _)) (AR _ _ _ (bS g.session 8) ((kH g).1) (kH g).2 (b6).sat (hT.1.below b6.gr.below) ⟨_, _, _, _, rfl, g5, g6, g7, g8⟩ (UM g)) ?_
       intro l5 l6 l7 g9 h7 h0
       obtain ⟨f2, f3, rfl, b7⟩ := h0
       have b7 : Bs _ (.slice f2 (mW ((kH g).1) (kH g).2).length f3) (mW ((kH g).1) (kH g).2) := b7
       refine sW 0 g9 (fC) fun l8 f4 => ?_
       refine wlK e0 ?_
       refine aO ?_
       try simp only [xt]
       refine bR (lJ rfl ⟨_, rfl, lR f4 0 Tryz.underlying33 (fC)⟩) ?_
       ·have e : kI g = .ask (bS g.session 8) (mW (kH g).1 (kH g).2) := by
         unfold kI
         rw [zZa (by omega), zZa (by omega), zZa (by omega), zZa (by omega), zZa (by omega), zZa (by omega)]
        refine ⟨_, _, rfl, f4.gr, ?_⟩
        rw [e]
        exact ⟨_, _, rfl, b7⟩
theorem uP (F : Fz) (w : World) (v : Value) (l : List Ge) (m : Nat) (hs : Sat w F) (hT : Has w ∧ Tabs w) (hv : Ges F v l) (hm : m ≤ 1000) :
    Calls Tryz.prog 25 #[v, .int .i64 ((m : Nat) : Int)] w (qJ w F 4 AcC 33 (aL l m)) := by
 obtain ⟨a, c, rfl, hc1, hc2⟩ := Sl.shape hv
 unfold maxLen at hc2
 obtain ⟨e1, c6, c7, c8, c9⟩ := info_parts SR
 have S := St.start hs
 go_enter Tryz.func25, Tryz.ntmps25
 refine sk fun e2 b0 => ?_
 refine dy ?_
 refine wn b0 ?_
 refine sk fun e3 b1 => ?_
 refine dy ?_
 refine wn b1 ?_
 refine aE fun e4 a5 => ?_
 refine aE fun e5 b2 => ?_
 have d0 := St.addNil S 4 AcC AcC.mono 33 w.heap.size
 refine aB ?_
 refine dy ?_
 simp only [pq]
 refine wlK b2 ?_
 refine aN ?_
 refine aX (fun mm aa d1 => ∃ (i : Nat) (ra : Option Addr) (rc : Nat) (a7 : Fz) (a8 : Nat → Value), mm = l.length - i ∧ a8 = dX aa ∧ aa = ⟨([(.slice a l.length c), (nI m), undef, undef, Zn, (.slice ra (aL l i).length rc), (nI i)] ++ (usF a8 7 21 [undef])).toArray, []⟩ ∧ St w F d1 a7 [] [cU 4 AcC AcC.mono 33 w.heap.size (.slice ra (aL l i).length rc) (aL l i)] ∧ Le F a7 ∧ (i ≤ l.length) ∧ (i ≤ m)) _ ⟨0, none, 0, F, _, rfl, rfl, rfl, d0, Le.refl _, (by omega), (by omega)⟩ ?_
 rintro e6 e7 e8 ⟨i, ra, rc, a7, a8, rfl, -, hfr, a0, a6, hi, him⟩ e9 b3
 simp only [uzF, Nat.reduceAdd] at hfr; subst hfr
 refine aE fun f0 b4 => ?_
 refine sk fun f1 a2 => ?_
 refine aC ?_
 by_cases f2 : i < l.length
 refine eS ?_
 refine aC ?_
 by_cases f3 : i < m
 refine eS ?_
 refine dp ?_
 refine wn a2 ?_
 refine aI ?_
 refine aH ?_
 refine b4 _ _ ?_
 refine aE fun f4 b5 => ?_
 refine aN ?_
 refine aE fun f5 b6 => ?_
 obtain ⟨g, hz_g⟩ : ∃ g, l[i]? = some g := ⟨l[i]'(by omega), zZc (by omega)⟩
 obtain ⟨d2, d3, b7, d4, hz_g_b⟩ := Ges.get (hv.mono a6) hz_g
 refine aB ?_
 iterate 2 refine dx ?_
 refine dr (pP d2 (d3 + i * 5)) (bN (i := i) (sz := 5) Tryz.underlying22 (VG _) rfl b7 rfl (by omega) rfl) ?_
 simp only [pq]
 refine dr _ (aD rfl (cV Tryz.underlying31 rfl (SW) (fun j v h => St.fz a0 (d4 j v h)))) ?_
 refine aR a0 rfl (fn1 (Gv _ _)) (Br _ _ g (a0).sat ⟨hT.1.below a0.gr.below, hT.2.at a0.gr.below⟩ hz_g_b) ?_
 intro f6 f7 b9 d5 c0 d6
 obtain ⟨a3, a4, rfl, c1⟩ := d6
 refine sA d5 (xX _) fun f8 f9 d7 => ?_
 refine sW 0 d7 (fC) fun g0 c2 => ?_
 simp only [pq]
 refine wlK b6 ?_
 refine aB ?_
 refine dx ?_
 refine dR c2 0 Tryz.underlying33 (fC) ?_
 refine bH c2 (v := fun n => .slice (aA n 0) 1 1) rfl (cN (ps := #[(0, (.agg #[(.int .i64 (((kI g).kind : Nat) : Int)), (.int .i64 (((kI g).sess : Nat) : Int)), (.int .i64 (((kI g).keep : Nat) : Int)), (.slice a3 (kI g).data.length a4)]))]) (cells := #[(.int .i64 (((kI g).kind : Nat) : Int)), (.int .i64 (((kI g).sess : Nat) : Int)), (.int .i64 (((kI g).keep : Nat) : Int)), (.slice a3 (kI g).data.length a4)]) (E := 33) (cZ rfl) (fun w => by kernel_rfl)) (fun g1 g2 c3 => ?_)
 refine fH (i := 0) (r := 0) (p := (kI g)) (cs := [(.int .i64 (((kI g).kind : Nat) : Int)), (.int .i64 (((kI g).sess : Nat) : Int)), (.int .i64 (((kI g).keep : Nat) : Int)), (.slice a3 (kI g).data.length a4)]) c3 rfl e1 (.agg #[(iI 0), (iI 0), (iI 0), Zn]) 48 Tryz.underlying23 c6 c7 c8 c9 rfl (by decide) rfl rfl rfl rfl rfl (AcC.oneCell (F := b9) (p := (kI g)) ⟨_, rfl, c1⟩) (⟨_, rfl, c1⟩) (zZe _) c3.gr.below.size (by unfold maxLen; (have := bK l i; simp; omega)) (by (have := bK l i; simp; omega)) ?_
 intro g3 g4 a1 e0
 simp only [pq]
 have a1 := St.drop a1 (.cons _ (zZd _))
 obtain ⟨d8, a9, rfl, g5, d9⟩ := (a1.own (i := 0) rfl).shape
 unfold maxLen at d9
 refine dy ?_
 refine wlK b5 ?_
 refine aB ?_
 refine dx ?_
 refine cR (i + 1) ?_
 refine dy ?_
 simp only [pq]
 refine aG ?_
 have a1 := St.drop a1 (.cons _ (zZd _))
 rw [show ((aL l i) ++ [(kI g)]) = (aL l (i + 1)) from (LF hz_g)] at a1 ⊢
 exact b3 _ _ _ (by omega) ⟨(i + 1), d8, a9, b9, _, rfl, rfl, rfl, a1, (a6.trans c0), (by omega), (by omega)⟩
 refine eM ?_
 refine dp ?_
 refine wn a2 ?_
 refine aF ?_
 refine cP ?_
 refine a5 _ _ ?_
 refine sk fun g6 c4 => ?_
 refine aC ?_
 refine wn c4 ?_
 refine aO ?_
 try simp only [xt]
 refine bR (bA rfl (gD rfl)) ?_
 have hend : aL l i = aL l m := by first | exact AS (by omega) him | exact congrArg _ (by omega)
 rw [← hend]
 exact ⟨_, _, rfl, a0.gr, St.own (i := 0) a0 rfl⟩
 refine eM ?_
 refine aC ?_
 refine wn a2 ?_
 refine aF ?_
 refine cP ?_
 refine a5 _ _ ?_
 refine sk fun g7 c5 => ?_
 refine aC ?_
 refine wn c5 ?_
 refine aO ?_
 try simp only [xt]
 refine bR (bA rfl (gD rfl)) ?_
 have hend : aL l i = aL l m := by first | exact AS (by omega) him | exact congrArg _ (by omega)
 rw [← hend]
 exact ⟨_, _, rfl, a0.gr, St.own (i := 0) a0 rfl⟩
theorem BN (F : Fz) (w : World) (v u : Value) (l m : aW) (hs : Sat w F) (hv : Tns F v l) (hu : Tns F u m) (hl : l.length ≤ 1000000) (hL : ∀ t ∈ l, t.2.length ≤ 1000000) :
    Calls Tryz.prog 24 #[v, u] w (cT w (.bool (decide (l = m)))) := by
 obtain ⟨a, c, rfl, _⟩ := Sl.shape hv
 obtain ⟨a', c', rfl, _⟩ := Sl.shape hu
 have S := St.start hs
 go_enter Tryz.func24, Tryz.ntmps24
 refine sk fun K1 hK1 => ?_
 refine dy ?_
 refine wn hK1 ?_
 refine sk fun K2 hK2 => ?_
 refine aC ?_
 refine aJ (v := (.bool (decide (l = m)))) S rfl (fn2 (Gu _ _)) (BA _ _ _ _ l m (S).sat hv hu hl hL) (fun w3 S4 => ?_)
 refine dy ?_
 refine wn hK2 ?_
 refine aO ?_
 try simp only [xt]
 refine bR (bA rfl (gD rfl)) ?_
 exact ⟨rfl, S4.gr.below⟩
theorem Ii : wW := fun w0 F0 w F n g L _ s u r hM hT hg hv ok hq => WZ w0 F0 w F n g L s u r hM hT hg hv ok hq
theorem yW {l : List Ac} (ok : ∀ a ∈ l, pL a) (hl : l.length ≤ 149) : ScrOk l := ⟨ok, zZo (XH l) hl, by omega, fun _ _ _ => Ii, fun _ _ _ => Ih⟩
theorem UN {l : List Ac} (h : ScrOk l) : EngOk (fK l) (dZ l) ∧ EngB (dZ l) := ⟨RR (by have := h.c; omega) h.ok, Jf (by have := h.c; omega) h.ok⟩
theorem wY {a b : List Ac} (ha : ∀ x ∈ a, pL x) (hb : ∀ x ∈ b, pL x) : ∀ x ∈ a ++ b, pL x := fun x hx => (List.mem_append.1 hx).elim (ha x) (hb x)
theorem Fm {l : List Ac} (h : ScrOk l) : ForestOk 60 ((dZ l).forest (dZ l).synced) := by
 have ho := (UN h).1
 have hs := ho.sync
 rw [ho.state _ (by omega)]
 exact ho.ok _ (by omega)
theorem BO (F : Fz) (w : World) (v u : Value) (l : List Pr) (hs : Sat w F) (hv : Prs F v l) (hu : Prs F u l) :
    Calls Tryz.prog 26 #[v, u] w (cT w (.bool true)) := by
 obtain ⟨a, c, rfl, hc1, hc2⟩ := Sl.shape hv
 obtain ⟨a2, c2, rfl, hd1, hd2⟩ := Sl.shape hu
 unfold maxLen at hc2
 have S := St.start hs
 go_enter Tryz.func26, Tryz.ntmps26
 refine sk fun K1 hK1 => ?_
 refine dy ?_
 refine wn hK1 ?_
 refine aE fun K2 hK2 => ?_
 refine sk fun K3 hK3 => ?_
 refine aC ?_
 refine jJ ?_
 refine wn hK3 ?_
 refine aF ?_
 refine aH ?_
 refine hK2 _ _ ?_
 refine aE fun K4 hK4 => ?_
 refine sk fun K5 hK5 => ?_
 refine dy ?_
 simp only [pq]
 refine wn hK5 ?_
 refine aN ?_
 refine aX (fun mm aa w7 => ∃ (k : Nat) (u6 : Nat → Value), mm = l.length - k ∧ u6 = dX aa ∧ aa = ⟨([(.slice a l.length c), (.slice a2 l.length c2), undef, undef, (u6 4), (nI k), (.slice a l.length c), (nI l.length), (.slice a2 l.length c2), (nI l.length), bF] ++ (usF u6 11 34 [])).toArray, []⟩ ∧ St w F w7 F [] [] ∧ (k ≤ l.length)) _ ⟨0, _, rfl, rfl, rfl, S, (by omega)⟩ ?_
 rintro m8 a9 d8 ⟨k, u6, rfl, -, hfr, a1, hk⟩ d9 a6
 simp only [uzF, Nat.reduceAdd] at hfr; subst hfr
 refine aE fun e0 a7 => ?_
 refine sk fun e1 a3 => ?_
 refine aC ?_
 by_cases c8 : k < l.length
 ·refine eS ?_
  refine wn a3 ?_
  refine aI ?_
  refine aH ?_
  refine a7 _ _ ?_
  refine aE fun e2 a8 => ?_
  refine aN ?_
  refine aE fun e3 b0 => ?_
  obtain ⟨p, hp⟩ : ∃ p, l[k]? = some p := ⟨l[k]'(by omega), zZc (by omega)⟩
  obtain ⟨c4, c5, a4, b1, b2, b3, b4, c9, d0, d1, d2⟩ := Prs.get hv hp
  obtain ⟨c6, c7, a5, b5, b6, b7, b9, d3, d4, d5, d6⟩ := Prs.get hu hp
  refine aP F 26 [] (by kernel_rfl) (by kernel_rfl) ?_
  simp only [dA]
  iterate 2 refine gm ?_
  simp only [pq]
  refine gv (pP c4 (c5 + k * 2)) (fun _ _ => bN (i := k) (sz := 2) Tryz.underlying47 (bI _) rfl a4 rfl (by omega) rfl) ?_
  refine gf (lY _ _) ?_
  refine gv _ (fun _ a0 => aD rfl (aQ (aZ _) (St.fz (St.tells a1 a0) c9))) ?_
  simp only [pq]
  refine gv (.string ⟨p.1.toArray⟩) (fun _ a0 => aU (v := (.slice b1 p.1.length b2)) rfl (gE Tryz.underlying25 Tryz.underlying5 Tryz.underlying9 ((St.tells a1 a0)).sat d1)) ?_
  iterate 2 refine gm ?_
  simp only [pq]
  refine gv (pP c6 (c7 + k * 2)) (fun _ _ => bN (i := k) (sz := 2) Tryz.underlying47 (bI _) rfl a5 rfl (by omega) rfl) ?_
  refine gf (lY _ _) ?_
  refine gv _ (fun _ a0 => aD rfl (aQ (aZ _) (St.fz (St.tells a1 a0) d3))) ?_
  simp only [pq]
  refine gv (.string ⟨p.1.toArray⟩) (fun _ a0 => aU (v := (.slice b5 p.1.length b6)) rfl (gE Tryz.underlying25 Tryz.underlying5 Tryz.underlying9 ((St.tells a1 a0)).sat d5)) ?_
  refine gv bF (fun _ _ => tO (op := .neq) (l := p.1) (m := p.1) (b := false) (by simp) rfl rfl (bne_self_eq_false _)) ?_
  refine gm ?_
  simp only [pq]
  iterate 2 refine gm ?_
  refine gv (pP c4 (c5 + k * 2)) (fun _ _ => bN (i := k) (sz := 2) Tryz.underlying47 (bI _) rfl a4 rfl (by omega) rfl) ?_
  simp only [pq]
  refine gf (rZ _ _) ?_
  refine gv _ (fun _ a0 => aD rfl (aQ (aZ _) (St.fz (St.tells a1 a0) d0))) ?_
  refine gv (.string ⟨p.2.toArray⟩) (fun _ a0 => aU (v := (.slice b3 p.2.length b4)) rfl (gE Tryz.underlying25 Tryz.underlying5 Tryz.underlying9 ((St.tells a1 a0)).sat d2)) ?_
  simp only [pq]
  iterate 2 refine gm ?_
  refine gv (pP c6 (c7 + k * 2)) (fun _ _ => bN (i := k) (sz := 2) Tryz.underlying47 (bI _) rfl a5 rfl (by omega) rfl) ?_
  simp only [pq]
  refine gf (rZ _ _) ?_
  refine gv _ (fun _ a0 => aD rfl (aQ (aZ _) (St.fz (St.tells a1 a0) d4))) ?_
  refine gv (.string ⟨p.2.toArray⟩) (fun _ a0 => aU (v := (.slice b7 p.2.length b9)) rfl (gE Tryz.underlying25 Tryz.underlying5 Tryz.underlying9 ((St.tells a1 a0)).sat d6)) ?_
  simp only [pq]
  refine bU ?_
  intro e4 c0 c1
  clear c1
  have d7 := St.tells a1 c0
  simp only [dB]
  refine dr bF (tO (op := .neq) (l := p.2) (m := p.2) (b := false) (by simp) rfl rfl (bne_self_eq_false _)) ?_
  refine dp ?_
  refine wlK b0 ?_
  refine aF ?_
  refine aH ?_
  refine a8 _ _ ?_
  refine aB ?_
  refine dx ?_
  refine cR (k + 1) ?_
  refine dy ?_
  simp only [pq]
  refine aG ?_
  exact a6 _ _ _ (by omega) ⟨(k + 1), _, rfl, rfl, rfl, d7, (by omega)⟩
 ·refine eM ?_
  refine wn a3 ?_
  refine aF ?_
  refine cP ?_
  refine hK4 _ _ ?_
  refine sk fun e5 c3 => ?_
  refine dy ?_
  refine wn c3 ?_
  refine aO ?_
  try simp only [xt]
  refine bR (bA rfl (gD rfl)) ?_
  ·exact ⟨rfl, a1.gr.below⟩
end Go.Proofs.YtilgpdpooildcaaGreatDoor
