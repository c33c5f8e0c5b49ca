/- Rules, plain laws and walks: SV10 SV11 P17 SV12 TW SV13 P21 IN P22 S11 SV14 SV15 SV16 SV17 SV18 -/
import Derived.Test.YtilgpdpooildcaaGreatDoorCA12
import Derived.Test.YtilgpdpooildcaaGreatDoorCA2
import Derived.Test.YtilgpdpooildcaaGreatDoorCA3
import Derived.Test.YtilgpdpooildcaaGreatDoorCA5
import Derived.Test.YtilgpdpooildcaaGreatDoorCA7
import Derived.Test.YtilgpdpooildcaaGreatDoorCA11
import Derived.Test.YtilgpdpooildcaaGreatDoorCA10
namespace Go.Proofs.YtilgpdpooildcaaGreatDoor
set_option maxHeartbeats 8000000
open Go.RowKit
set_option maxRecDepth 100000
set_option linter.unusedVariables false
set_option linter.unusedSimpArgs false
def AcC (F : Fz) (cs : List Value) (a : Ac) : Prop := ∃ x, cs = [.int .i64 ((a.kind : Nat) : Int), .int .i64 ((a.sess : Nat) : Int), .int .i64 ((a.keep : Nat) : Int), x] ∧ Bs F x a.data
theorem AcC.mono (F F' : Fz) (x : List Value) (p : Ac) (hl : Le F F') (h : AcC F x p) : AcC F' x p := by
 obtain ⟨v, e, h⟩ := h; exact ⟨v, e, h.mono hl⟩
theorem AcC.oneCell {F : Fz} {cs : List Value} {p : Ac} (h : AcC F cs p) : ∀ u ∈ cs, u.oneCell' = true := by
 obtain ⟨v, rfl, h⟩ := h
 intro u hu
 simp only [List.mem_cons, List.not_mem_nil, or_false] at hu
 rcases hu with rfl | rfl | rfl | rfl
 ·rfl
 ·rfl
 ·rfl
 ·exact h.oneCell
abbrev Acs (F : Fz) (v : Value) (l : List Ac) : Prop := Sl 4 AcC F v l
theorem Acs.mono {F F' : Fz} {v : Value} {l : List Ac} (h : Acs F v l) (hl : Le F F') : Acs F' v l := Sl.mono AcC.mono h hl
theorem Cd : (madeCells (Value.slice none 0 0).cells (1 * 1)).toList = [Value.slice none 0 0] := by
 rw [show (Value.slice none 0 0).cells = #[.slice none 0 0] from rfl, toList_madeCells_one]; rfl
theorem Acs.get {F : Fz} {a : Option Addr} {n c : Nat} {l : List Ac} (h : Acs F (.slice a n c) l) {i : Nat} {p : Ac} (hp : l[i]? = some p) :
    ∃ b o, a = some ⟨b, o, none⟩ ∧ ∃ x y, cI F b (o + i * 4) = some (.int .i64 ((p.kind : Nat) : Int)) ∧ cI F b (o + i * 4 + 1) = some (.int .i64 ((p.sess : Nat) : Int)) ∧ cI F b (o + i * 4 + 2) = some (.int .i64 ((p.keep : Nat) : Int)) ∧ cI F b (o + i * 4 + 3) = some (.slice x p.data.length y) ∧ Bs F (.slice x p.data.length y) p.data := by
 obtain ⟨hi, rfl⟩ := List.getElem?_eq_some_iff.1 hp
 have hn := Sl.len h
 obtain ⟨b, o, e, h1⟩ := Sl.at h (by omega) (by omega)
 obtain ⟨cs, q1, ⟨a0, rfl, h0⟩, q3⟩ := h1 i hi
 obtain ⟨x, y, rfl, _⟩ := h0.shape
 exact ⟨b, o, e, x, y, by have := q3 0 (by simp); simpa [Nat.add_assoc] using this, by have := q3 1 (by simp); simpa [Nat.add_assoc] using this, by have := q3 2 (by simp); simpa [Nat.add_assoc] using this, by have := q3 3 (by simp); simpa [Nat.add_assoc] using this, h0⟩
def zV : Prop := ∀ (w0 : World) (F0 : Fz) (w : World) (F : Fz) (n : Nat) (g : Eng) (L : List Blk) {m : Nat} (k : Nat), EngM w0 F0 w F n g L → Tabs w0 → EngOk m g → m ≤ 149 → k ≤ 100000 →
    Calls Tryz.prog 70 #[.pointer (some ⟨n, 0, none⟩), .int .i64 ((k : Nat) : Int)] w (wZ w0 F0 F n (g.crash k) L)
theorem XV (w0 : World) (F0 : Fz) (w : World) (F : Fz) (n : Nat) (g : Eng) (L : List Blk) {m : Nat} (hM : EngM w0 F0 w F n g L) (hh : Has w0) (hT : Tabs w0) (hg : EngOk m g) (hm : m ≤ 149) (hq : g.replies.length + g.waiting.length ≤ 100000) (s : Nat) (hs8 : s < 8) (b : By) {u : Value} (hu : Bs F u b) (hP : wdE b = 0 → (wdR b).1 = 8 → xA) :
    Calls Tryz.prog 52 #[.pointer (some ⟨n, 0, none⟩), .agg #[.int .i64 1, .int .i64 ((s : Nat) : Int), .int .i64 0, u]] w (wZ w0 F0 F n (g.ask s b) L) := by
 obtain ⟨da, dc, rfl, _⟩ := hu.shape
 obtain ⟨ad, cd, ac, cc, af, cf, aw, cw, ar, cr, pv, S, hd, ht⟩ := hM
 go_enter Tryz.func52, Tryz.ntmps52
 refine sk fun K4 hK4 => ?_
 refine bG S (v := fun n => .pointer (aA n 0)) rfl (bX (v := (.agg #[(iI 1), (nI s), (iI 0), (.slice da b.length dc)])) rfl) (fun n5 w6 S7 => ?_)
 refine wn hK4 ?_
 refine sk fun K8 hK8 => ?_
 refine aC ?_
 refine wn hK8 ?_
 refine aO ?_
 refine sk fun K9 hK9 => ?_
 refine dr bT (dG (b := true) rfl rfl (by decide)) ?_
 refine dy ?_
 simp only [pq]
 refine wn hK9 ?_
 refine aJ ?_
 refine aB ?_
 refine aC ?_
 have a6 := St.perm S7 (List.perm_middle (l₁ := [_]))
 have a0 : EngM _ _ _ _ n g _ := ⟨_, _, _, _, _, _, _, _, _, _, _, a6, hd, ht⟩
 refine doC rfl (fn3 (Hk _ _)) (Fr _ _ _ _ _ _ _ s hs8 _ b a0 hh hT hg hm hu hP (by omega)) ?_
 rintro _ c0 ⟨rfl, c1, a1, a2⟩
 refine ⟨_, rfl, ?_⟩
 obtain ⟨a7, a8, a9, b0, b1, b2, b3, b4, b5, b6, b7, b9, a3, a4⟩ := a2
 refine aH ?_
 try simp only [xt]
 refine bE (iS rfl) ?_
 have a5 : EngM _ _ _ _ n (g.ask s b) _ := ⟨_, _, _, _, _, _, _, _, _, _, _, b9, a3, a4⟩
 exact ⟨rfl, _, a1, (a5.drop (.cons _ (List.Sublist.refl _)))⟩
theorem SY (w0 : World) (F0 : Fz) (w : World) (F : Fz) (n : Nat) (g : Eng) (L : List Blk) {m : Nat} (hM : EngM w0 F0 w F n g L) (hh : Has w0) (hT : Tabs w0) (hg : EngOk m g) (hm : m ≤ 149) (hq : g.replies.length + g.waiting.length ≤ 100000) (u : Value) :
    Calls Tryz.prog 52 #[.pointer (some ⟨n, 0, none⟩), .agg #[.int .i64 2, .int .i64 0, .int .i64 0, u]] w (wZ w0 F0 F n g.sync L) := by
 obtain ⟨ad, cd, ac, cc, af, cf, aw, cw, ar, cr, pv, S, hd, ht⟩ := hM
 go_enter Tryz.func52, Tryz.ntmps52
 refine sk fun K4 hK4 => ?_
 refine bG S (v := fun n => .pointer (aA n 0)) rfl (bX (v := (.agg #[(iI 2), (iI 0), (iI 0), u])) rfl) (fun n5 w6 S7 => ?_)
 refine wn hK4 ?_
 refine sk fun K8 hK8 => ?_
 refine aC ?_
 refine wn hK8 ?_
 refine aO ?_
 refine sk fun K9 hK9 => ?_
 refine dr bF (dG (b := false) rfl rfl (by decide)) ?_
 refine dy ?_
 simp only [pq]
 refine wn hK9 ?_
 refine aF ?_
 refine sk fun c1 a0 => ?_
 refine dr bT (dG (b := true) rfl rfl (by decide)) ?_
 refine dy ?_
 refine wn a0 ?_
 refine aJ ?_
 refine aB ?_
 refine dx ?_
 simp only [pq]
 have a7 := St.perm S7 (List.perm_middle (l₁ := [_]))
 have a1 : EngM _ _ _ _ n g _ := ⟨_, _, _, _, _, _, _, _, _, _, _, a7, hd, ht⟩
 refine doC rfl (fn1 (Hl _ _)) (Bz _ _ _ _ _ _ _ a1 hg hm hq) ?_
 rintro _ c2 ⟨rfl, c3, a2, a3⟩
 refine ⟨_, rfl, ?_⟩
 obtain ⟨a8, a9, b0, b1, b2, b3, b4, b5, b6, b7, b9, c0, a4, a5⟩ := a3
 refine aH ?_
 try simp only [xt]
 refine bE (iS rfl) ?_
 have a6 : EngM _ _ _ _ n g.sync _ := ⟨_, _, _, _, _, _, _, _, _, _, _, c0, a4, a5⟩
 exact ⟨rfl, _, a2, (a6.drop (.cons _ (List.Sublist.refl _)))⟩
theorem PL (w0 : World) (F0 : Fz) (w : World) (F : Fz) (n : Nat) (g : Eng) (L : List Blk) {m : Nat} (hM : EngM w0 F0 w F n g L) (hh : Has w0) (hT : Tabs w0) (hg : EngOk m g) (hm : m ≤ 149) (hq : g.replies.length + g.waiting.length ≤ 100000) (u : Value) (k : Nat) (hk : k ≤ 100000) (hC : zV) :
    Calls Tryz.prog 52 #[.pointer (some ⟨n, 0, none⟩), .agg #[.int .i64 3, .int .i64 0, .int .i64 ((k : Nat) : Int), u]] w (wZ w0 F0 F n (g.crash k) L) := by
 obtain ⟨ad, cd, ac, cc, af, cf, aw, cw, ar, cr, pv, S, hd, ht⟩ := hM
 go_enter Tryz.func52, Tryz.ntmps52
 refine sk fun K4 hK4 => ?_
 refine bG S (v := fun n => .pointer (aA n 0)) rfl (bX (v := (.agg #[(iI 3), (iI 0), (nI k), u])) rfl) (fun n5 w6 S7 => ?_)
 refine wn hK4 ?_
 refine sk fun K8 hK8 => ?_
 refine aC ?_
 refine wn hK8 ?_
 refine aO ?_
 refine sk fun K9 hK9 => ?_
 refine dr bF (dG (b := false) rfl rfl (by decide)) ?_
 refine dy ?_
 simp only [pq]
 refine wn hK9 ?_
 refine aF ?_
 refine sk fun c2 a0 => ?_
 refine dr bF (dG (b := false) rfl rfl (by decide)) ?_
 refine dy ?_
 refine wn a0 ?_
 refine aF ?_
 refine sk fun c3 a1 => ?_
 refine dr bT (dG (b := true) rfl rfl (by decide)) ?_
 refine dy ?_
 simp only [pq]
 refine wn a1 ?_
 refine aJ ?_
 refine aB ?_
 refine aC ?_
 have a8 := St.perm S7 (List.perm_middle (l₁ := [_]))
 have a2 : EngM _ _ _ _ n g _ := ⟨_, _, _, _, _, _, _, _, _, _, _, a8, hd, ht⟩
 refine doC rfl (fn2 (Hm _ _)) (hC _ _ _ _ _ _ _ k a2 hT hg hm hk) ?_
 rintro _ c4 ⟨rfl, c5, a3, a4⟩
 refine ⟨_, rfl, ?_⟩
 obtain ⟨a9, b0, b1, b2, b3, b4, b5, b6, b7, b9, c0, c1, a5, a6⟩ := a4
 refine aH ?_
 try simp only [xt]
 refine bE (iS rfl) ?_
 have a7 : EngM _ _ _ _ n (g.crash k) _ := ⟨_, _, _, _, _, _, _, _, _, _, _, c1, a5, a6⟩
 exact ⟨rfl, _, a3, (a7.drop (.cons _ (List.Sublist.refl _)))⟩
theorem PM (w0 : World) (F0 : Fz) (w : World) (F : Fz) (n : Nat) (g : Eng) (L : List Blk) {m : Nat} (hM : EngM w0 F0 w F n g L) (hh : Has w0) (hT : Tabs w0) (hg : EngOk m g) (hm : m ≤ 149) (hq : g.replies.length + g.waiting.length ≤ 100000) (u : Value) :
    Calls Tryz.prog 52 #[.pointer (some ⟨n, 0, none⟩), .agg #[.int .i64 4, .int .i64 0, .int .i64 0, u]] w (wZ w0 F0 F n g.start L) := by
 obtain ⟨ad, cd, ac, cc, af, cf, aw, cw, ar, cr, pv, S, hd, ht⟩ := hM
 go_enter Tryz.func52, Tryz.ntmps52
 refine sk fun K4 hK4 => ?_
 refine bG S (v := fun n => .pointer (aA n 0)) rfl (bX (v := (.agg #[(iI 4), (iI 0), (iI 0), u])) rfl) (fun n5 w6 S7 => ?_)
 refine wn hK4 ?_
 refine sk fun K8 hK8 => ?_
 refine aC ?_
 refine wn hK8 ?_
 refine aO ?_
 refine sk fun K9 hK9 => ?_
 refine dr bF (dG (b := false) rfl rfl (by decide)) ?_
 refine dy ?_
 simp only [pq]
 refine wn hK9 ?_
 refine aF ?_
 refine sk fun a5 a0 => ?_
 refine dr bF (dG (b := false) rfl rfl (by decide)) ?_
 refine dy ?_
 refine wn a0 ?_
 refine aF ?_
 refine sk fun a6 a1 => ?_
 refine dr bF (dG (b := false) rfl rfl (by decide)) ?_
 refine dy ?_
 simp only [pq]
 refine wn a1 ?_
 refine aF ?_
 refine aB ?_
 refine aC ?_
 refine sW 1 S7 (tP) fun a7 a3 => ?_
 refine aH ?_
 try simp only [xt]
 refine bE (iS rfl) ?_
 have a4 := St.perm a3 (List.perm_middle (l₁ := [_]))
 have a2 : EngM _ _ _ _ n g.start _ := ⟨_, _, _, _, _, _, _, _, _, _, _, a4, hd, ht⟩
 exact ⟨rfl, _, Le.refl _, (a2.drop (.cons _ (List.Sublist.refl _)))⟩
theorem Im (w0 : World) (F0 : Fz) (w : World) (F : Fz) (n : Nat) (g : Eng) (L : List Blk) {m : Nat} (hM : EngM w0 F0 w F n g L) (hh : Has w0) (hT : Tabs w0) (hg : EngOk m g) (hm : m ≤ 149) (hq : g.replies.length + g.waiting.length ≤ 100000) {a : Ac} (ha : pH a) {u : Value} (hu : Bs F u a.data) (hP : isP a = true → xA) (hK : isK a = true → zV) :
    Calls Tryz.prog 52 #[.pointer (some ⟨n, 0, none⟩), .agg #[.int .i64 ((a.kind : Nat) : Int), .int .i64 ((a.sess : Nat) : Int), .int .i64 ((a.keep : Nat) : Int), u]] w (wZ w0 F0 F n (g.act a) L) := by
 cases a with
 | ask s b => exact XV _ _ _ _ _ _ _ hM hh hT hg hm hq s ha.1 b hu (fun h1 h2 => hP (by unfold isP; simp [h1, h2]))
 | sync => exact SY _ _ _ _ _ _ _ hM hh hT hg hm hq u
 | crash k => exact PL _ _ _ _ _ _ _ hM hh hT hg hm hq u k ha (hK rfl)
 | start => exact PM _ _ _ _ _ _ _ hM hh hT hg hm hq u
theorem XW {w0 w : World} {F0 F : Fz} {n k : Nat} {L : List Blk} (S : St w0 F0 w F (⟨n, mR true (.slice none 0 0) 0 (.slice none 0 0) (.slice (some ⟨k, 0, none⟩) 1 1) 0 (fun _ => .pointer none) (fun _ => false) (.slice none 0 0) (.slice none 0 0), 115⟩ :: ⟨k, [.slice none 0 0], 24⟩ :: L) []) : EngM w0 F0 w F n EZ L := by
 have hb := (S.blk ⟨k, [.slice none 0 0], 24⟩ (by simp)).2.2
 have S1 := S.perm (List.Perm.swap _ _ _)
 have S2 := St.blkRow (k := 1) (cap := 1) (hR := FoC.mono) (base := w0.heap.size) (l := [([] : aV)]) (el := [[.slice none 0 0]]) S1 rfl ⟨⟨_, rfl, Sl.nil _ _ _⟩, trivial⟩ (by simp) rfl (by simp) (by unfold maxLen; decide) hb
 have S3 := ((S2.addNil 2 CmC CmC.mono 168 w0.heap.size).addNil 1 NtC NtC.mono 3 w0.heap.size).addNil 15 RpC RpC.mono 54 w0.heap.size
 have S4 := S3.permR (M' := pK w0.heap.size (.slice none 0 0) [] (.slice (some ⟨k, 0, none⟩) 1 1) [[]] (.slice none 0 0) [] (.slice none 0 0) []) (by
  refine (List.perm_middle (l₁ := [_, _]) (l₂ := [_])).trans ?_
  refine List.Perm.cons _ ?_
  exact (List.perm_middle (l₁ := [_, _]) (l₂ := [])).trans (List.Perm.cons _ (List.Perm.swap _ _ _)))
 exact ⟨_, _, _, _, _, _, _, _, _, _, fun _ => .pointer none, S4, Bs.nil _, fun _ _ => rfl⟩
def Jj (F : Fz) (u : Value) (g : Eng) : Prop := ∃ a c b d, u = .agg #[.bool g.up, .int .i64 ((g.synced : Nat) : Int), .int .i64 ((g.waiting.length : Nat) : Int), .slice a (g.forest g.synced).length c, .slice b g.replies.length d] ∧ Tns F (.slice a (g.forest g.synced).length c) (g.forest g.synced) ∧ Rps F (.slice b g.replies.length d) g.replies
def Jt (g : Eng) (F : Fz) (u : Value) : Prop := ∃ x, u = .tuple #[x, .int .i64 0] ∧ Jj F x g
theorem PN (F : Fz) (w : World) (v : Value) (l : List Ac) (hs : Sat w F) (hh : Has w) (hT : Tabs w) (hv : Acs F v l) (hok : ∀ a ∈ l, pH a) (hc : fG l ≤ 149) (hlen : l.length ≤ 100000) (hP : ∀ a ∈ l, isP a = true → xA) (hK : ∀ a ∈ l, isK a = true → zV) :
    Calls Tryz.prog 35 #[v] w (dE w F (Jt (dM l))) := by
 obtain ⟨a, c, rfl, hc1, hc2⟩ := Sl.shape hv
 unfold maxLen at hc2
 obtain ⟨l7, e7, e8, e9, f0⟩ := info_parts VD
 have S := St.start hs
 go_enter Tryz.func35, Tryz.ntmps35
 refine sk fun K1 hK1 => ?_
 refine sA S (nV _) fun n2 w3 S4 => ?_
 refine dy ?_
 refine wn hK1 ?_
 refine aE fun K5 hK5 => ?_
 refine sk fun K6 hK6 => ?_
 refine aC ?_
 refine lM ?_
 simp only [pq]
 refine wn hK6 ?_
 refine aF ?_
 refine aI ?_
 refine hK5 _ _ ?_
 refine aE fun K7 hK7 => ?_
 refine sk fun K8 hK8 => ?_
 refine aC ?_
 refine wn hK8 ?_
 refine aO ?_
 refine aX (fun mm aa l8 => ∃ (i : Nat) (F9 : Fz) (a0 : Nat → Value), mm = l.length - i ∧ a0 = eB aa ∧ aa = ⟨#[(.slice a l.length c), undef, (pP n2 0), (a0 3), undef, (a0 5), (a0 6), undef, undef, undef, undef, undef, (.slice a l.length c), (nI l.length), bF, undef, (.slice a l.length c), (nI l.length), (nI i), (a0 19), (a0 20), (a0 21), (a0 22), (a0 23), (a0 24), (a0 25), (a0 26), (a0 27), (a0 28), undef, undef, undef, undef, undef, undef, undef, undef, undef, undef, undef, undef, undef, undef, undef, undef, undef, undef, undef, undef, undef, undef, undef, undef, undef, undef, undef, undef, undef, undef, undef, undef, undef, undef, undef, undef, undef, undef, undef, undef, undef, undef, undef, undef, undef, undef], []⟩ ∧ St w F l8 F9 [⟨n2, [bF, (iI 0), (iI 0), Zn, Zn], 43⟩] [] ∧ Le F F9 ∧ (i ≤ l.length)) _ ⟨0, F, _, rfl, rfl, rfl, S4, Le.refl _, (by omega)⟩ ?_
 rintro r8 r9 s0 ⟨i, F9, a0, rfl, -, rfl, b4, b2, hi⟩ s1 f1
 refine sk fun s2 b6 => ?_
 by_cases f2 : i < l.length
 refine eQ ?_
 refine wn b6 ?_
 refine aE fun s3 f3 => ?_
 refine aJ ?_
 refine aI ?_
 refine f3 _ _ ?_
 refine aE fun s4 f4 => ?_
 refine aO ?_
 refine aE fun s5 f5 => ?_
 obtain ⟨p, hp⟩ : ∃ p, l[i]? = some p := ⟨l[i], List.getElem?_eq_getElem f2⟩
 have hpo := hok p (List.mem_of_getElem? hp)
 obtain ⟨l9, m0, f6, m1, m2, m3, m4, m5, m6, s6⟩ := Acs.get (hv.mono b2) hp
 have hpo2 : p.data.length ≤ 4000 := by cases p <;> first | exact hpo.2 | exact Nat.zero_le _
 refine aB ?_
 refine dr (pP l9 (m0 + i * 4)) (bQ (i := i) (sz := 4) Tryz.underlying23 (HH _) rfl f6 rfl (by omega) rfl) ?_
 refine dr _ (aD rfl (cX Tryz.underlying33 rfl (fA) (eW (St.fz b4 m3) (St.fz b4 m4) (St.fz b4 m5) (St.fz b4 m6)))) ?_
 simp only [pq]
 refine sA b4 (xY _) fun s7 s8 m7 => ?_
 refine sW 0 m7 (fA) fun s9 i9 => ?_
 refine wlK f5 ?_
 refine sk fun t0 f7 => ?_
 refine dR i9 0 Tryz.underlying33 (fA) ?_
 simp only [pq]
 refine aK (v := (iI 0)) i9 rfl (fn1 (He _ _)) (Fu hpo ▸ GE _ _ _ _ _ _ _ (by have := hpo2; omega)) (fun t1 f8 => ?_)
 refine dy ?_
 refine wn f7 ?_
 refine sk fun t2 f9 => ?_
 refine dx ?_
 refine dr bF (cE (m := (0 : Int)) (n := (0 : Int)) (b := false) rfl rfl (bne_eq_false_iff_eq.2 (by simp))) ?_
 simp only [pq]
 refine wn f9 ?_
 refine aF ?_
 refine aI ?_
 refine f4 _ _ ?_
 refine aB ?_
 refine cV (i + 1) ?_
 refine dx ?_
 refine aH ?_
 have f8 := St.drop f8 (.cons _ (List.Sublist.refl _))
 exact f1 _ _ _ (by omega) ⟨(i + 1), F9, _, rfl, rfl, rfl, f8, b2, (by omega)⟩
 refine eL ?_
 simp only [pq]
 refine wn b6 ?_
 refine aE fun t3 m8 => ?_
 refine aF ?_
 refine cU ?_
 refine hK7 _ _ ?_
 refine sk fun t4 g0 => ?_
 refine IY (k := 1) (n := 1) (m := 1) b4 rfl l7 Zn 24 Tryz.underlying106 e7 e8 e9 f0 rfl rfl (by omega) (by omega) (by omega) ?_
 intro e5 t5 j0
 rw [Cd] at j0
 refine dr (.agg #[bT, Zn, (iI 0), Zn, (.slice (aA e5 0) 1 1), (iI 0), (.pointer none), bF, (.pointer none), bF, (.pointer none), bF, (.pointer none), bF, (.pointer none), bF, (.pointer none), bF, (.pointer none), bF, (.pointer none), bF, Zn, Zn]) (aL (eP rfl rfl) (by kernel_rfl)) ?_
 refine bG j0 (v := fun n => .pointer (aA n 0)) rfl (bX (v := (.agg #[bT, Zn, (iI 0), Zn, (.slice (aA e5 0) 1 1), (iI 0), (.pointer none), bF, (.pointer none), bF, (.pointer none), bF, (.pointer none), bF, (.pointer none), bF, (.pointer none), bF, (.pointer none), bF, (.pointer none), bF, Zn, Zn])) rfl) (fun b3 t6 m9 => ?_)
 simp only [pq]
 refine dy ?_
 refine wn g0 ?_
 refine aE fun t7 g1 => ?_
 refine sk fun t8 g2 => ?_
 refine aC ?_
 refine wn g2 ?_
 refine aO ?_
 have g3 := XW m9
 obtain ⟨n0, n1, n3, n4, n5, n6, n7, n8, n9, o0, o1, o2, g4, g5⟩ := g3
 have g6 : EngM _ _ _ _ b3 (dM (l.take 0)) _ := ⟨_, _, _, _, _, _, _, _, _, _, _, o2, g4, g5⟩
 refine aX (fun mm aa o3 => ∃ (j : Nat) (e6 : Fz) (a5 : Nat → Value), mm = l.length - j ∧ a5 = eB aa ∧ aa = ⟨#[(.slice a l.length c), undef, (pP n2 0), (a0 3), undef, (a0 5), (a0 6), (pP b3 0), undef, (a5 9), undef, undef, (.slice a l.length c), (nI l.length), bF, undef, (.slice a l.length c), (nI l.length), (nI i), bF, (a0 20), (a0 21), (a0 22), (a0 23), (a0 24), (a0 25), (a0 26), (a0 27), (a0 28), (.slice (aA e5 0) 1 1), (.agg #[bT, Zn, (iI 0), Zn, (.slice (aA e5 0) 1 1), (iI 0), (.pointer none), bF, (.pointer none), bF, (.pointer none), bF, (.pointer none), bF, (.pointer none), bF, (.pointer none), bF, (.pointer none), bF, (.pointer none), bF, Zn, Zn]), (pP b3 0), (.slice a l.length c), (nI l.length), (nI j), (a5 35), (a5 36), (a5 37), (a5 38), (a5 39), (a5 40), (a5 41), undef, undef, undef, undef, undef, undef, undef, undef, undef, undef, undef, undef, undef, undef, undef, undef, undef, undef, undef, undef, undef, undef, undef, undef, undef, undef, undef, undef, undef, undef, undef, undef, undef], []⟩ ∧ EngM w F o3 e6 b3 (dM (l.take j)) [⟨n2, [bF, (iI 0), (iI 0), Zn, Zn], 43⟩] ∧ Le F9 e6 ∧ (j ≤ l.length)) _ ⟨0, _, _, rfl, rfl, rfl, g6, Le.refl _, (by omega)⟩ ?_
 rintro t9 u0 u1 ⟨j, e6, a5, rfl, -, rfl, g7, b7, hj⟩ u2 g8
 obtain ⟨o4, o5, o6, o7, o8, o9, p0, p1, p2, p3, p4, b5, b9, c0⟩ := g7
 refine sk fun u3 c1 => ?_
 by_cases g9 : j < l.length
 refine eQ ?_
 refine wn c1 ?_
 refine aE fun u4 h0 => ?_
 refine aJ ?_
 refine aI ?_
 refine h0 _ _ ?_
 refine aE fun u5 h1 => ?_
 refine aO ?_
 refine aE fun u6 h2 => ?_
 obtain ⟨p, hp⟩ : ∃ p, l[j]? = some p := ⟨l[j], List.getElem?_eq_getElem g9⟩
 have hpo := hok p (List.mem_of_getElem? hp)
 obtain ⟨p5, p6, h3, c2, c3, p7, p8, p9, h4, h5⟩ := Acs.get (hv.mono (b2.trans b7)) hp
 have hgi := PK hc hok j
 have hri := GF l j hlen
 refine aB ?_
 refine dr (pP p5 (p6 + j * 4)) (bQ (i := j) (sz := 4) Tryz.underlying23 (HH _) rfl h3 rfl (by omega) rfl) ?_
 refine dr _ (aD rfl (cX Tryz.underlying33 rfl (fA) (eW (St.fz b5 p7) (St.fz b5 p8) (St.fz b5 p9) (St.fz b5 h4)))) ?_
 simp only [pq]
 refine sA b5 (xY _) fun q0 q1 h6 => ?_
 refine sW 0 h6 (fA) fun q2 c4 => ?_
 refine wlK h2 ?_
 refine aB ?_
 refine dx ?_
 refine dR c4 0 Tryz.underlying33 (fA) ?_
 simp only [pq]
 have h7 := St.perm c4 (List.perm_middle (l₁ := [_]))
 have c5 : EngM _ _ _ _ b3 (dM (l.take j)) _ := ⟨_, _, _, _, _, _, _, _, _, _, _, h7, b9, c0⟩
 refine doC rfl (fn2 (Hf _ _)) (Im _ _ _ _ _ _ _ c5 hh hT hgi.1 hgi.2 hri hpo (u := (.slice c2 p.data.length c3)) h5 (hP p (List.mem_of_getElem? hp)) (hK p (List.mem_of_getElem? hp))) ?_
 rintro _ q3 ⟨rfl, q4, c6, c7⟩
 refine ⟨_, rfl, ?_⟩
 obtain ⟨j1, j2, j3, j4, j5, j6, j7, j8, j9, k0, k1, h8, c8, c9⟩ := c7
 refine wlK h1 ?_
 refine aB ?_
 refine cV (j + 1) ?_
 refine dx ?_
 refine aH ?_
 have d0 : EngM _ _ _ _ b3 ((dM (l.take j)).act p) _ := ⟨_, _, _, _, _, _, _, _, _, _, _, h8, c8, c9⟩
 have a7 := d0.drop (.cons _ (List.Sublist.refl _))
 rw [(show (dM (l.take j)).act p = dM (l.take (j + 1)) from (XU hp).symm)] at a7
 exact g8 _ _ _ (by omega) ⟨(j + 1), _, _, rfl, rfl, rfl, a7, (b7.trans c6), (by omega)⟩
 refine eL ?_
 simp only [pq]
 refine wn c1 ?_
 refine aE fun q5 k2 => ?_
 refine aF ?_
 refine cU ?_
 refine g1 _ _ ?_
 refine aE fun q6 d1 => ?_
 have hil : l.take j = l := List.take_of_length_le (by omega)
 have a8 : EngM _ _ _ _ b3 (dM (l.take j)) _ := ⟨_, _, _, _, _, _, _, _, _, _, _, b5, b9, c0⟩
 rw [hil] at a8
 obtain ⟨k3, k4, k5, k6, k7, k8, k9, l0, a9, b0, l1, a1, l2, l3⟩ := a8
 have hge := SU (l := l) (by omega) hok
 have hsy := hge.sync
 have hst := hge.states
 have hsl : (dM l).synced ≤ (dM l).commits.length := by omega
 have hfa := vT hge hsl
 have hfo := vU hge hsl
 obtain ⟨h9, d2, d3, d4, i0, i1⟩ := VE (a1.own (i := 1) rfl) hfa
 refine aP e6 15 [(10, .made (fun F' u => ZU ((dM l).forest (dM l).synced) 0 F' u)), (12, .made (fun F' u => Tns F' u ((dM l).forest (dM l).synced))), (13, .is (iI 0))] (by kernel_rfl) (by kernel_rfl) ?_
 simp only [cY]
 refine gm ?_
 refine gi ?_
 refine gf (mY _ _) ?_
 simp only [pq]
 refine gl oN a1 0 ?_
 refine gm ?_
 refine gi ?_
 simp only [pq]
 refine gf (gN _ _) ?_
 refine gl bK a1 0 ?_
 refine gv (pP h9 (0 + ((dM l).synced) * 1)) (fun _ _ => bQ (i := (dM l).synced) (sz := 1) Tryz.underlying106 (oA _) rfl d2 rfl (by omega) rfl) ?_
 simp only [pq]
 refine gv _ (fun _ a2 => aD rfl (aQ (uX _) (rA a2 i0))) ?_
 simp only [pq]
 refine eC rfl rfl (fun d5 a2 hF => bS (bZ (vs := #[(.slice d3 ((dM l).forest (dM l).synced).length d4), Zn]) (gF rfl rfl) rfl (zF _ _)) (dQ a1.sat a2 (yJ ((St.tells a1 a2)).sat i1 (Sl.nil _ _ _) hfo (by simp) (show gO ((dM l).forest (dM l).synced) [] = (0, ((dM l).forest (dM l).synced)) from rfl)))) (fun q7 => ?_)
 refine gm ?_
 simp only [pq]
 refine eC rfl rfl (fun d5 a2 hF_ => ?_) (fun q8 => ?_)
 obtain ⟨i2, i3, _, rfl, d6⟩ := hF_.get 10 (by kernel_rfl) rfl rfl
 exact iA (cC rfl rfl) ⟨i2, i3, d6⟩ (Below.refl _ _)
 simp only [pq]
 refine fP rfl rfl (v := (iI 0)) (fun d5 a2 hF_ => ?_) ?_
 obtain ⟨q9, r0, _, rfl, l4⟩ := hF_.get 10 (by kernel_rfl) rfl rfl
 exact yV (cC rfl rfl)
 refine ga ?_
 refine bU ?_
 intro r1 l5 b1
 obtain ⟨i4, d7, i5⟩ := b1.get 12 rfl rfl
 have a3 := St.gives a1 d7
 have l6 : Le _ _ := d7.le a1.sat
 have a6 := i5
 generalize i4 = i6 at *
 obtain ⟨d8, d9, rfl, r2, r3⟩ := Sl.shape a6
 have a6 : Tns _ (.slice d8 ((dM l).forest (dM l).synced).length d9) ((dM l).forest (dM l).synced) := a6
 clear b1
 simp only [cZ]
 refine dy ?_
 simp only [pq]
 refine wlK d1 ?_
 refine aE fun r4 e0 => ?_
 refine aP i6 18 [] (by kernel_rfl) (by kernel_rfl) ?_
 simp only [cY]
 refine gm ?_
 refine gi ?_
 refine gf (qX _ _) ?_
 simp only [pq]
 refine gl iF a3 0 ?_
 refine gm ?_
 refine gi ?_
 simp only [pq]
 refine gf (gN _ _) ?_
 refine gl bK a3 0 ?_
 refine gm ?_
 simp only [pq]
 refine gi ?_
 refine gf (tU _ _) ?_
 refine gl JC a3 0 ?_
 simp only [pq]
 refine gv (.int .i64 (((dM l).waiting.length : Nat) : Int)) (fun _ _ => oJ Tryz.underlying60 rfl) ?_
 iterate 2 refine gm ?_
 simp only [pq]
 refine gi ?_
 refine gf (tV _ _) ?_
 refine gl nR a3 0 ?_
 simp only [pq]
 refine bU ?_
 intro r5 e1 e2
 clear e2
 have i7 := St.tells a3 e1
 simp only [cZ]
 refine dr (.agg #[(.bool (dM l).up), (.int .i64 (((dM l).synced : Nat) : Int)), (.int .i64 (((dM l).waiting.length : Nat) : Int)), (.slice d8 ((dM l).forest (dM l).synced).length d9), (.slice a9 (dM l).replies.length b0)]) (aL (Ir rfl rfl rfl rfl rfl) (by kernel_rfl)) ?_
 refine sW 1 i7 (kU) fun r6 e3 => ?_
 refine dy ?_
 simp only [pq]
 refine wlK e0 ?_
 refine aN ?_
 try simp only [xt]
 refine bR (dL rfl ⟨_, rfl, lR e3 1 Tryz.underlying43 (kU)⟩ (gD rfl)) ?_
 obtain ⟨r7, i8, e4, a4⟩ := St.freeze e3 (i := 3) rfl (Nat.le_refl _)
 have a4 : Rps _ (.slice a9 (dM l).replies.length b0) ((dM l).replies) := a4
 exact ⟨_, _, rfl, i8.gr, _, rfl, _, _, _, _, rfl, (a6.mono e4), a4⟩
def AcV (F : Fz) (u : Value) (a : Ac) : Prop := ∃ x y, u = .agg #[.int .i64 ((a.kind : Nat) : Int), .int .i64 ((a.sess : Nat) : Int), .int .i64 ((a.keep : Nat) : Int), .slice x a.data.length y] ∧ Bs F (.slice x a.data.length y) a.data
def Jk (g : Eng) (F : Fz) (u : Value) : Prop := ∃ x, u = .tuple #[x, .bool true] ∧ Jj F x g
theorem Rps.mono {F F' : Fz} {v : Value} {l : List Rep} (h : Rps F v l) (hl : Le F F') : Rps F' v l := Sl.mono RpC.mono h hl
theorem AcC.one (F : Fz) (cs : List Value) (p : Ac) (h : AcC F cs p) : ∀ u ∈ cs, u.oneCell' = true := h.oneCell
theorem PO (F : Fz) (w : World) (u : Value) (s k : Nat) (r : Rq) (hs : Sat w F) (hh : Has w) (hv : BD F u k r.name r.key r.last r.value) (ok : RqOk k r) :
    Calls Tryz.prog 21 #[.int .i64 ((s : Nat) : Int), u] w (dE w F fun F' u => AcV F' u (.ask s (BE k r))) := by
 obtain ⟨_, _, _, _, rfl, q0, q1, q2, q3⟩ := hv
 obtain ⟨a0, c0, rfl, _⟩ := q0.shape
 obtain ⟨a1, c1, rfl, _⟩ := q1.shape
 obtain ⟨a2, c2, rfl, _⟩ := q2.shape
 obtain ⟨a3, c3, rfl, _⟩ := q3.shape
 have S := St.start hs
 go_enter Tryz.func21, Tryz.ntmps21
 refine sk fun K1 hK1 => ?_
 refine bG S (v := fun n => .pointer (aA n 0)) rfl (bX (v := (.agg #[(nI k), (.slice a0 r.name.length c0), (.slice a1 r.key.length c1), (.slice a2 r.last.length c2), (.slice a3 r.value.length c3)])) rfl) (fun n2 w3 S4 => ?_)
 refine sA S4 (xY _) fun n5 w6 S7 => ?_
 refine wn hK1 ?_
 refine sk fun K8 hK8 => ?_
 refine dR S7 1 Tryz.underlying27 (bI) ?_
 refine aR S7 rfl (fn1 (Gz _ _)) (BF _ _ _ k r (S7).sat (hh.below S7.gr.below) ⟨_, _, _, _, rfl, q0, q1, q2, q3⟩ ok) ?_
 intro b2 w9 b3 a9 b0 b1
 obtain ⟨_, rfl, a7⟩ := b1
 obtain ⟨a4, a5, rfl, _⟩ := a7.shape
 refine aC ?_
 refine wn hK8 ?_
 refine sk fun b4 a6 => ?_
 iterate 2 refine dx ?_
 refine dr (.agg #[(iI 1), (nI s), (iI 0), (.slice a4 (BE k r).length a5)]) (aL (TM rfl rfl rfl) (by kernel_rfl)) ?_
 simp only [pq]
 refine sW 0 a9 (fA) fun b5 a8 => ?_
 refine wn a6 ?_
 refine aN ?_
 try simp only [xt]
 refine bR (lG rfl ⟨_, rfl, lR a8 0 Tryz.underlying33 (fA)⟩) ?_
 exact ⟨_, _, rfl, a8.gr, _, _, rfl, a7⟩
theorem Ce (F : Fz) (w : World) (v : Value) (l : List Ac) (hs : Sat w F) (hh : Has w) (hT : Tabs w) (hv : Acs F v l) (hok : ∀ a ∈ l, pH a) (hc : fG l ≤ 149) (hlen : l.length ≤ 100000) (hP : ∀ a ∈ l, isP a = true → xA) (hK : ∀ a ∈ l, isK a = true → zV) :
    Calls Tryz.prog 23 #[v] w (dE w F (Jk (dM l))) := by
 obtain ⟨a, c, rfl, hc1, hc2⟩ := Sl.shape hv
 have S := St.start hs
 go_enter Tryz.func23, Tryz.ntmps23
 refine sk fun K1 hK1 => ?_
 refine sA S (nV _) fun n2 w3 S4 => ?_
 refine dy ?_
 refine wn hK1 ?_
 refine sk fun K5 hK5 => ?_
 refine dx ?_
 simp only [pq]
 refine aR S4 rfl (fn1 (ZH _ _)) (PN _ _ _ l (S4).sat (hh.below S4.gr.below) (hT.at S4.gr.below) hv hok hc hlen hP hK) ?_
 intro d4 w6 F8 S7 le9 b7
 obtain ⟨_, rfl, b9⟩ := b7
 obtain ⟨a6, a7, a8, a9, rfl, c0, c1⟩ := b9
 refine aC ?_
 refine sA S7 (nV _) fun c2 d5 c3 => ?_
 refine sW 0 c3 (kU) fun d6 a4 => ?_
 refine dy ?_
 simp only [pq]
 refine wn hK5 ?_
 refine sk fun d7 b0 => ?_
 refine aR a4 rfl (fn1 (ZH _ _)) (PN _ _ _ [] (a4).sat (hh.below a4.gr.below) (hT.at a4.gr.below) (Sl.nil _ _ _) (by simp) (by decide) (by simp) (by simp) (by simp)) ?_
 intro d8 d9 c4 c5 a2 c6
 obtain ⟨_, rfl, c7⟩ := c6
 obtain ⟨e0, e1, e2, e3, rfl, e4, e5⟩ := c7
 refine aC ?_
 refine sA c5 (nV _) fun c8 e6 c9 => ?_
 refine sW 0 c9 (kU) fun b6 d0 => ?_
 refine dy ?_
 simp only [pq]
 refine wn b0 ?_
 refine aE fun e7 b1 => ?_
 obtain ⟨d1, a3, b2⟩ := St.freezeBlk d0 (i := 1) rfl
 generalize addF c4 b6 c2 = d2 at *
 obtain ⟨d3, a1, b3⟩ := St.freezeBlk d1 (i := 0) rfl
 generalize addF d2 b6 c8 = e8 at *
 refine fY d3 (by kernel_rfl) (fun e9 a0 => ?_)
 refine bW 0 rfl (.agg #[(.bool (dM l).up), (.int .i64 (((dM l).synced : Nat) : Int)), (.int .i64 (((dM l).waiting.length : Nat) : Int)), (.slice a6 ((dM l).forest (dM l).synced).length a7), (.slice a8 (dM l).replies.length a9)]) a0.sat (fun _ b4 => aD rfl (iZ (cs := [(.bool (dM l).up), (.int .i64 (((dM l).synced : Nat) : Int)), (.int .i64 (((dM l).waiting.length : Nat) : Int)), (.slice a6 ((dM l).forest (dM l).synced).length a7), (.slice a8 (dM l).replies.length a9)]) Tryz.underlying43 rfl (kU) (zU (c := [(.bool (dM l).up), (.int .i64 (((dM l).synced : Nat) : Int)), (.int .i64 (((dM l).waiting.length : Nat) : Int)), (.slice a6 ((dM l).forest (dM l).synced).length a7), (.slice a8 (dM l).replies.length a9)]) (St.start b4).sat (Le.cells a1 b2)))) ?_
 simp only [pq]
 refine dN 1 rfl a0.sat ?_
 simp only [pq]
 refine bW 2 rfl bT a0.sat (fun _ _ => dG (b := true) rfl rfl (by decide)) ?_
 simp only [pq]
 refine dN 3 rfl a0.sat ?_
 simp only [pq]
 refine dN 4 rfl a0.sat ?_
 simp only [pq]
 refine bW 5 rfl bT a0.sat (fun _ _ => dG (b := true) rfl rfl (by decide)) ?_
 simp only [pq]
 refine bW 6 rfl bT a0.sat (fun _ _ => uU (b := true) rfl) ?_
 simp only [pq]
 refine dN 7 rfl a0.sat ?_
 simp only [pq]
 refine bW 8 rfl _ a0.sat (fun _ _ => ef (TS _ _)) ?_
 simp only [pq]
 refine bW 9 rfl _ a0.sat (fun _ b5 => aD rfl (aQ (iF _) (St.fz (St.start b5) (b3 0 _ rfl)))) ?_
 simp only [pq]
 refine bW 10 rfl bT a0.sat (fun _ _ => uU (b := true) rfl) ?_
 simp only [pq]
 refine cS 11 (by kernel_rfl) rfl ?_
 refine sW 0 a0 (kU) fun f0 a5 => ?_
 refine aH (cB a5.sat ?_)
 refine eR 12 rfl a5.sat ?_
 simp only [pq]
 refine gS (by kernel_rfl) ?_
 refine b1 _ _ ?_
 refine aN ?_
 try simp only [xt]
 refine bR (dL rfl ⟨_, rfl, lR a5 0 Tryz.underlying43 (kU)⟩ (gD rfl)) ?_
 exact ⟨_, _, rfl, a5.gr, _, rfl, _, _, _, _, rfl, (c0.mono ((a2.trans a3).trans a1)), (c1.mono ((a2.trans a3).trans a1))⟩
structure ScrOk (l : List Ac) : Prop where
  ok : ∀ a ∈ l, pH a
  c : fG l ≤ 149
  len : l.length ≤ 100000
  P : ∀ a ∈ l, isP a = true → xA
  K : ∀ a ∈ l, isK a = true → zV
theorem pL (F : Fz) (w : World) (v : Value) (l : List Ac) {g : Eng} (hs : Sat w F) (hh : Has w) (hT : Tabs w) (hv : Acs F v l) (h : ScrOk l) (hg : dM l = g) :
    Calls Tryz.prog 23 #[v] w (dE w F (Jk g)) := hg ▸ Ce F w v l hs hh hT hv h.ok h.c h.len h.P h.K
def rq0 : Rq := ⟨[], [], [], []⟩
def iD (z : Int) : UInt8 := UInt8.ofNat (z % 256).toNat
inductive Rc where
  | rq (s k : Nat) (r : Rq)
  | sync
  | crash (k : Nat)
  | start
def Rc.ac : Rc → Ac
  | .rq s k r => .ask s (BE k r)
  | .sync => .sync
  | .crash k => .crash k
  | .start => .start
def Eng.rc (g : Eng) : Rc → Eng
  | .rq s k r => if g.up then g.req s k r else g.reply (fV s 13)
  | .sync => g.sync
  | .crash k => g.crash k
  | .start => g.start
def Ju : Rc → Prop
  | .rq s k r => s < 8 ∧ RqOk k r
  | .crash k => k ≤ 100000
  | _ => True
theorem Fv {a : Rc} (h : Ju a) : pH a.ac := by
 cases a with
 | rq s k r =>
  refine ⟨h.1, ?_⟩
  have := Be h.2
  omega
 | sync => trivial
 | crash k => exact h
 | start => trivial
theorem vV (z : Int) (w : World) : (convert 3 5 (.int .i64 z)).run Tryz.prog w = .ok (.int .u8 (((iD z).toNat : Nat) : Int)) w := by
 have e : IntKind.u8.wrap z = (((iD z).toNat : Nat) : Int) := by
  rw [show IntKind.u8.wrap z = z % 256 from rfl]
  have h : (iD z).toNat = (z % 256).toNat := by
   have hm : (z % 256).toNat < 256 := by omega
   unfold iD
   simp only [UInt8.toNat_ofNat']
   exact Nat.mod_eq_of_lt hm
  rw [h]; omega
 rw [← e]
 go_simp
theorem Rps.get {F : Fz} {a : Option Addr} {n c : Nat} {l : List Rep} (h : Rps F (.slice a n c) l) {i : Nat} {r : Rep} (hp : l[i]? = some r) :
    ∃ b o, a = some ⟨b, o, none⟩ ∧ ∃ va vc pa pc ra rc, cI F b (o + i * 15) = some (.int .i64 ((r.s : Nat) : Int)) ∧ cI F b (o + i * 15 + 1) = some (.int .i64 r.code) ∧ cI F b (o + i * 15 + 2) = some (.int .i64 r.turn) ∧ cI F b (o + i * 15 + 3) = some (.bool r.found) ∧ cI F b (o + i * 15 + 4) = some (.slice va r.value.length vc) ∧ cI F b (o + i * 15 + 5) = some (.slice pa r.pairs.length pc) ∧ cI F b (o + i * 15 + 6) = some (.slice ra r.root.length rc) ∧ Bs F (.slice va r.value.length vc) r.value ∧ Prs F (.slice pa r.pairs.length pc) r.pairs ∧ Bs F (.slice ra r.root.length rc) r.root := by
 obtain ⟨hi, rfl⟩ := List.getElem?_eq_some_iff.1 hp
 have hn := Sl.len h
 obtain ⟨b, o, e, h1⟩ := Sl.at h (by omega) (by omega)
 obtain ⟨cs, q1, ⟨v, p, q, a1, a2, a3, b1, b2, b3, rfl, r1, r2, r3, _⟩, q3⟩ := h1 i hi
 obtain ⟨va, vc, rfl, _⟩ := r1.shape
 obtain ⟨pa, pc, rfl, _⟩ := Sl.shape r2
 obtain ⟨ra, rc, rfl, _⟩ := r3.shape
 refine ⟨b, o, e, va, vc, pa, pc, ra, rc, ?_, ?_, ?_, ?_, ?_, ?_, ?_, r1, r2, r3⟩
 have := q3 0 (by simp); simpa [Nat.add_assoc] using this
 have := q3 1 (by simp); simpa [Nat.add_assoc] using this
 have := q3 2 (by simp); simpa [Nat.add_assoc] using this
 have := q3 3 (by simp); simpa [Nat.add_assoc] using this
 have := q3 4 (by simp); simpa [Nat.add_assoc] using this
 have := q3 5 (by simp); simpa [Nat.add_assoc] using this
 have := q3 6 (by simp); simpa [Nat.add_assoc] using this
open Go.ChangeShapes Go.WideShapes Go.ChangeAt Go.RowKit
abbrev IK : List (String × DataW Unit) := [("canopy/digest.rounds", Rows.laid_canopy_digest_rounds), ("canopy/digest.goes", Rows.laid_canopy_digest_goes), ("canopy/digest.turns", Rows.laid_canopy_digest_turns), ("canopy/wire.has", Rows.laid_canopy_wire_has)]
theorem Cf {W : World} (h : laidMetH Tryz.prog IK W) : Tabs W := by
 have hr : Lib.TabIs Tryz.prog W "canopy/digest.rounds" .u64 UZ :=
  yN (l := IK) h 0 _ _ _ rfl VA PC Tryz.underlying218 Tryz.underlying215 SN LD
 have hg : Lib.TabIs Tryz.prog W "canopy/digest.goes" .i64 Gl :=
  yN (l := IK) h 1 _ _ _ rfl Gm XM Tryz.underlying235 Tryz.underlying3 Bj SP
 have ht : Lib.TabIs Tryz.prog W "canopy/digest.turns" .i64 Bk :=
  yN (l := IK) h 2 _ _ _ rfl Bl SQ Tryz.underlying235 Tryz.underlying3 XN PD
 refine ⟨fun i hi => ?_, fun i hi => ?_, fun i hi => ?_⟩
 rw [SS hg Gm (n := 24) rfl hi, Bm i hi]
 rw [SS ht Bl (n := 24) rfl hi, XO i hi]
 rw [SS hr VA (n := 24) rfl hi, SR i hi]
theorem Jl : Tryz.prog.globalNamed "canopy/wire.has" = some 0 := by kernel_rfl
theorem Cg : (Tryz.prog.globals[(0 : Nat)]?).map (·.type) = some 92 := by kernel_rfl
theorem XX : Tryz.prog.cellsOf 92 = 9 := by kernel_rfl
theorem Ch : Tryz.prog.cellsOf 3 = 1 := by kernel_rfl
theorem Ci {W : World} (h : laidMetH Tryz.prog IK W) : Has W := by
 have ht : Lib.TabIs Tryz.prog W "canopy/wire.has" .i64 SL :=
  yN (l := IK) h 3 _ _ _ rfl Jl Cg Tryz.underlying92 Tryz.underlying3 Ch XX
 intro i hi
 have := ht.cell Jl i hi
 rw [this]
 simp [List.getD, hi]
theorem VG {W : World} (h : laidMetH Tryz.prog [("canopy/digest.rounds", Rows.laid_canopy_digest_rounds), ("canopy/digest.goes", Rows.laid_canopy_digest_goes), ("canopy/digest.turns", Rows.laid_canopy_digest_turns), ("canopy/wire.has", Rows.laid_canopy_wire_has)] W) : Has W ∧ Tabs W := ⟨Ci h, Cf h⟩
noncomputable def rI (os : Os) : World := { PE os with heap := (PE os).heap.modify 0 (setCells #[.int .i64 0, .int .i64 0, .int .i64 3, .int .i64 7, .int .i64 11, .int .i64 3, .int .i64 0, .int .i64 0, .int .i64 3]) }
theorem Rps.row {F : Fz} {a : Option Addr} {n c : Nat} {l : List Rep} (h : Rps F (.slice a n c) l) {i : Nat} {r : Rep} (hp : l[i]? = some r) :
    ∃ b o, a = some ⟨b, o, none⟩ ∧ ∃ va vc pa pc ra rc a1 a2 a3 b1 b2 b3, (∀ (j : Nat) v, [Value.int .i64 ((r.s : Nat) : Int), .int .i64 r.code, .int .i64 r.turn, .bool r.found, .slice va r.value.length vc, .slice pa r.pairs.length pc, .slice ra r.root.length rc, .bool r.outer.empty, a1, a2, a3, .bool r.inner.empty, b1, b2, b3][j]? = some v → cI F b (o + i * 15 + j) = some v) ∧ (∀ u ∈ [a1, a2, a3, b1, b2, b3], u.oneCell' = true) ∧ Bs F (.slice va r.value.length vc) r.value ∧ Prs F (.slice pa r.pairs.length pc) r.pairs ∧ Bs F (.slice ra r.root.length rc) r.root := by
 obtain ⟨hi, rfl⟩ := List.getElem?_eq_some_iff.1 hp
 have hn := Sl.len h
 obtain ⟨b, o, e, h1⟩ := Sl.at h (by omega) (by omega)
 obtain ⟨cs, q1, hc, q3⟩ := h1 i hi
 have hone := RpC.oneCell hc
 obtain ⟨v, p, q, a1, a2, a3, b1, b2, b3, rfl, r1, r2, r3, _⟩ := hc
 obtain ⟨va, vc, rfl, _⟩ := r1.shape
 obtain ⟨pa, pc, rfl, _⟩ := Sl.shape r2
 obtain ⟨ra, rc, rfl, _⟩ := r3.shape
 refine ⟨b, o, e, va, vc, pa, pc, ra, rc, a1, a2, a3, b1, b2, b3, fun j v hv => ?_, fun u hu => hone u ?_, r1, r2, r3⟩
 obtain ⟨hj, e⟩ := List.getElem?_eq_some_iff.1 hv
 have := q3 j (by simpa using hj)
 rw [← e]; simpa [Nat.add_assoc] using this
 simp only [List.mem_cons, List.not_mem_nil, or_false] at hu ⊢
 rcases hu with h | h | h | h | h | h <;> simp [h]
theorem IL {P : Program} {o : Oper} {a : Act} {W w : World} {F F1 : Fz} {b : UInt8} {E : TypeId} (g : Gr W F w F1)
    (hr : (execOp a.eval o).run P w = .ok (.value (.slice (some ⟨w.heap.size, 0, none⟩) 1 1)) (w.alloc (.cells #[bv b] E))) : kI P o a w (kQ (Made W F fun F' u => Bs F' u [b]) w) := by
 have h := tY (R := ByC) (hR := ByC.mono) (p := b) (cs := [bv b]) (k := 1) g rfl rfl hr
 unfold kI at h ⊢
 rw [hr] at h ⊢
 obtain ⟨⟨F', h2, h3⟩, h4⟩ := h
 exact ⟨⟨F', h2, eD h3⟩, h4⟩
def ReqR (F : Fz) (v : Value) (p : Nat × Rq) : Prop := ∃ a c a1 c1 a2 c2 a3 c3, v = .agg #[.int .i64 ((p.1 : Nat) : Int), .slice a p.2.name.length c, .slice a1 p.2.key.length c1, .slice a2 p.2.last.length c2, .slice a3 p.2.value.length c3] ∧ Bs F (.slice a p.2.name.length c) p.2.name ∧ Bs F (.slice a1 p.2.key.length c1) p.2.key ∧ Bs F (.slice a2 p.2.last.length c2) p.2.last ∧ Bs F (.slice a3 p.2.value.length c3) p.2.value
structure EngB (g : Eng) : Prop where
  wait : ∀ s, g.waits s = true → s ∈ g.waiting
  txn : ∀ s, 8 ≤ s → g.txn s = none
  down : g.up = false → g.waiting = [] ∧ (∀ s, g.txn s = none) ∧ g.tape.synced = g.tape.data.length
theorem EngB.up {g : Eng} (h : EngB g) (hu : g.up = true) {g' : Eng} (h1 : g'.waits = g.waits) (h2 : g'.waiting = g.waiting) (h3 : g'.up = g.up) (h4 : ∀ s, 8 ≤ s → g'.txn s = none) : EngB g' :=
  ⟨by rw [h1, h2]; exact h.wait, h4, fun e => by rw [h3, hu] at e; cases e⟩
theorem EngB.reply {g : Eng} (h : EngB g) (r : Rep) : EngB (g.reply r) := ⟨h.wait, h.txn, h.down⟩
theorem EngB.setTxn {g : Eng} (h : EngB g) (hu : g.up = true) {s : Nat} (hs : s < 8) (t : Option Tx) : EngB (g.setTxn s t) :=
  h.up hu rfl rfl rfl (fun i hi => by show rH g.txn s t i = none; rw [lC _ (by omega)]; exact h.txn i hi)
theorem EngB.req {g : Eng} (h : EngB g) (hu : g.up = true) {s : Nat} (hs : s < 8) (k : Nat) (r : Rq) : EngB (g.req s k r) := by
 have hst := fun t => h.setTxn hu hs t
 unfold Eng.req
 split
 exact h.reply _
 split
 exact h.reply _
 split
 split
 exact (hst _).reply _
 exact h.reply _
 rename_i t ht
 split
 exact h.reply _
 split
 exact (hst _).reply _
 split
 unfold Eng.work
 split
 unfold Eng.look
 simp only
 split
 exact h.reply _
 unfold Eng.note
 split
 exact h.reply _
 exact (hst _).reply _
 split
 unfold Eng.scan
 split
 exact h.reply _
 unfold Eng.note
 split
 exact h.reply _
 exact (hst _).reply _
 split
 unfold Eng.commit
 split
 exact (hst _).reply _
 split
 exact h.reply _
 split
 exact (hst _).reply _
 split
 exact (hst _).reply _
 unfold Eng.stand
 refine ⟨fun i hi => ?_, fun i hi => ?_, fun e => by simp only at e; rw [hu] at e; cases e⟩
 simp only at hi ⊢
 by_cases e : i = s
 subst e; simp
 rw [lC _ e] at hi; simp [h.wait i hi]
 show rH g.txn s none i = none; rw [lC _ (by omega)]; exact h.txn i hi
 unfold Eng.put
 split
 exact h.reply _
 exact (hst _).reply _
 exact (hst _).reply _
theorem EngB.crash {m : Nat} {g : Eng} (h : EngB g) (ho : EngOk m g) (k : Nat) : EngB (g.crash k) := by
 cases hu : g.up with
 | false => unfold Eng.crash; rw [hu]; exact h
 | true =>
  rw [crash_is ho hu]
  exact ⟨fun i hi => (by cases hi), fun i hi => rfl, fun _ => ⟨rfl, fun _ => rfl, rfl⟩⟩
theorem EngB.act {m : Nat} {g : Eng} (h : EngB g) (ho : EngOk m g) {a : Ac} (ha : pH a) : EngB (g.act a) := by
 cases a with
 | ask s b =>
  unfold Eng.act Eng.ask
  simp only
  split
  rename_i hu
  split
  exact h.req hu ha.1 _ _
  exact h.reply _
  exact h.reply _
 | sync =>
  show EngB g.sync
  cases hu : g.up with
  | false => unfold Eng.sync; rw [hu]; exact h
  | true =>
   rw [vR hu]
   refine ⟨fun i hi => ?_, h.txn, fun e => by simp only at e; rw [hu] at e; cases e⟩
   simp only at hi
   split at hi
   cases hi
   exact absurd (h.wait i hi) (by assumption)
 | crash k => exact h.crash ho k
 | start => exact ⟨h.wait, h.txn, fun e => (by cases e)⟩
theorem In : EngB EZ := ⟨fun i hi => (by cases hi), fun i hi => rfl, fun e => (by cases e)⟩
theorem EngB.run : ∀ (l : List Ac) {m : Nat} {g : Eng}, EngB g → EngOk m g → m + fG l ≤ 1000 → (∀ a ∈ l, pH a) → EngB (l.foldl Eng.act g)
  | [], m, g, h, _, _, _ => h
  | a :: l, m, g, h, ho, hm, ha => by
    have e : fG (a :: l) = (if isC a then 1 else 0) + fG l := by simp [fG]
    rw [e] at hm
    rw [List.foldl_cons]
    exact EngB.run l (h.act ho (ha a (by simp))) (ho.act (by omega) (ha a (by simp))) (by omega) (fun x hx => ha x (by simp [hx]))
theorem Jm {l : List Ac} (hl : fG l ≤ 1000) (ha : ∀ a ∈ l, pH a) : EngB (dM l) := EngB.run l In VC (by omega) ha
structure Still (m : Nat) (g : Eng) : Prop where
  ok : EngOk m g
  b : EngB g
  wait : g.waiting = []
  safe : g.tape.synced = g.tape.data.length
theorem Still.sync {m : Nat} {g : Eng} (ho : EngOk m g) (hb : EngB g) : Still m g.sync := by
 refine ⟨ho.syncs, hb.act (a := .sync) ho trivial, ?_, ?_⟩
 cases hu : g.up with
 | false => unfold Eng.sync; rw [hu]; exact (hb.down hu).1
 | true => rw [vR hu]
 cases hu : g.up with
 | false => unfold Eng.sync; rw [hu]; exact (hb.down hu).2.2
 | true => rw [vR hu]
theorem Still.crash {m : Nat} {g : Eng} (ho : EngOk m g) (hb : EngB g) (k : Nat) : Still m (g.crash k) := by
 refine ⟨ho.crashs k, hb.crash ho k, ?_, ?_⟩
 all_goals
  cases hu : g.up with
  | false => unfold Eng.crash; rw [hu]; first | exact (hb.down hu).1 | exact (hb.down hu).2.2
  | true => rw [crash_is ho hu]
theorem Still.start {m : Nat} {g : Eng} (h : Still m g) : Still m g.start := ⟨h.ok.starts, h.b.act (a := .start) h.ok trivial, h.wait, h.safe⟩
theorem Still.waits {m : Nat} {g : Eng} (h : Still m g) : g.waits = fun _ => false := by
 funext i
 cases e : g.waits i with
 | false => rfl
 | true => have := h.b.wait i e; rw [h.wait] at this; cases this
theorem Still.synced {m : Nat} {g : Eng} (h : Still m g) : g.synced = g.commits.length := by
 have := h.ok.sync; rw [h.wait] at this; simpa using this.symm
theorem Eng.ext' {a b : Eng} (h1 : a.up = b.up) (h2 : a.tape = b.tape) (h3 : a.commits = b.commits) (h4 : a.forests = b.forests) (h5 : a.synced = b.synced) (h6 : a.txn = b.txn) (h7 : a.waits = b.waits) (h8 : a.waiting = b.waiting) (h9 : a.replies = b.replies) : a = b := by
 cases a; cases b; simp only at h1 h2 h3 h4 h5 h6 h7 h8 h9; subst h1 h2 h3 h4 h5 h6 h7 h8 h9; rfl
theorem Tp.ext' {a b : Tp} (h1 : a.data = b.data) (h2 : a.synced = b.synced) : a = b := by
 cases a; cases b; simp only at h1 h2; subst h1 h2; rfl
theorem Still.sync_sync {m : Nat} {g : Eng} (h : Still m g) : g.sync = g := by
 cases hu : g.up with
 | false => unfold Eng.sync; rw [hu]; rfl
 | true =>
  rw [vR hu, h.wait]
  refine Eng.ext' rfl ?_ rfl rfl rfl rfl ?_ ?_ ?_
  exact Tp.ext' rfl h.safe.symm
  simp
  exact h.wait.symm
  simp [uP]
theorem Still.left {m : Nat} {g : Eng} (h : Still m g) (k : Nat) : g.left k = g.commits.length := by
 have := h.ok.left_le k; rw [h.synced] at this; omega
theorem Still.crash_is {m : Nat} {g : Eng} (h : Still m g) (k : Nat) : (g.crash k) = { g with up := false, txn := fun _ => none } := by
 cases hu : g.up with
 | false =>
  unfold Eng.crash; rw [hu]
  exact Eng.ext' hu rfl rfl rfl rfl (funext fun i => (h.b.down hu).2.1 i) rfl rfl rfl
 | true =>
  rw [Go.Proofs.YtilgpdpooildcaaGreatDoor.crash_is h.ok hu, h.left, List.take_of_length_le (Nat.le_refl _), List.take_of_length_le (Nat.le_of_eq h.ok.states)]
  exact Eng.ext' rfl (Tp.ext' h.ok.data.symm (by show (dU g.commits).length = g.tape.synced; rw [h.safe, h.ok.data])) rfl rfl h.synced.symm rfl h.waits.symm h.wait.symm rfl
theorem XY {m : Nat} {g : Eng} (ho : EngOk m g) (hb : EngB g) (a b : Nat) : let x := (g.crash a).start; let y := ((x.crash b).start)
    x.synced = y.synced ∧ x.forest x.synced = y.forest y.synced ∧ x.up = true ∧ y.up = true ∧ x.replies.length = y.replies.length := by
 have h := (Still.crash ho hb a).start
 simp only
 rw [h.crash_is b]
 exact ⟨rfl, rfl, rfl, rfl, rfl⟩
theorem Cj {g : Eng} (h : g.up = true) : g.start = g := Eng.ext' h.symm rfl rfl rfl rfl rfl rfl rfl rfl
def Eng.pre (R : List Rep) (g : Eng) : Eng := { g with replies := R ++ g.replies }
open Go.ChangeShapes Go.WideShapes Go.ChangeAt Go.RowKit Go.Deep
def I64 (z : Int) : Prop := -9223372036854775808 ≤ z ∧ z ≤ 9223372036854775807
structure Ge where
  kind : Int
  session : Int
  name : Int
  key : Int
  value : Int
def Fw (g : Ge) : Prop := I64 g.kind ∧ I64 g.session ∧ I64 g.name ∧ I64 g.key ∧ I64 g.value
def GeC (F : Fz) (cs : List Value) (g : Ge) : Prop := cs = [.int .i64 g.kind, .int .i64 g.session, .int .i64 g.name, .int .i64 g.key, .int .i64 g.value] ∧ Fw g
theorem GeC.mono (F F' : Fz) (x : List Value) (p : Ge) (hl : Le F F') (h : GeC F x p) : GeC F' x p := h
def Ges (F : Fz) (v : Value) (l : List Ge) : Prop := Sl 5 GeC F v l
theorem Ges.mono {F F' : Fz} {v : Value} {l : List Ge} (h : Ges F v l) (hl : Le F F') : Ges F' v l := Sl.mono GeC.mono h hl
theorem Ges.get {F : Fz} {a : Option Addr} {n c : Nat} {l : List Ge} (h : Ges F (.slice a n c) l) {i : Nat} {g : Ge} (hz : l[i]? = some g) :
    ∃ b o, a = some ⟨b, o, none⟩ ∧ (∀ (j : Nat) v, [Value.int .i64 g.kind, .int .i64 g.session, .int .i64 g.name, .int .i64 g.key, .int .i64 g.value][j]? = some v → cI F b (o + i * 5 + j) = some v) ∧ Fw g := by
 obtain ⟨hi, rfl⟩ := List.getElem?_eq_some_iff.1 hz
 have hn := h.len
 obtain ⟨b, o, e, h1⟩ := Sl.at h (by omega) (by omega)
 obtain ⟨cs, q1, ⟨rfl, r1⟩, q4⟩ := h1 i hi
 refine ⟨b, o, e, fun j v hv => ?_, r1⟩
 obtain ⟨hj, e⟩ := List.getElem?_eq_some_iff.1 hv
 have := q4 j (by simpa using hj)
 rw [← e]; simpa [Nat.add_assoc] using this
section
variable {H : Type} {enc : TypeId × Value → H} {P : Program} {w : World}
theorem Jn {α : Type} {cs : List α} (h : cs.length = 5) : ∃ a b c d e, cs = [a, b, c, d, e] := by
 match cs, h with
 | [a, b, c, d, e], _ => exact ⟨a, b, c, d, e, rfl⟩
theorem FF {t e it : TypeId} {f0 f1 f2 f3 f4 : Field} {fuel : Nat} {v : Value} {x : DataW H × List MemPlace} (ht : P.underlying t = some (.slice e)) (hs : P.underlying e = some (.struct #[f0, f1, f2, f3, f4])) (hone : oneCellFields P #[f0, f1, f2, f3, f4] = true) (hC : P.cellsOf e = 5)
    (e0 : f0.type = it) (e1 : f1.type = it) (e2 : f2.type = it) (e3 : f3.type = it) (e4 : f4.type = it) (hi : P.underlying it = some (.int .i64))
    (h : DataW.trod enc P w 0 (fun _ => true) true fuel t [v] = some x) : ∃ l : List Ge, Ges (whole w) v l :=
  YE (α := Ge) (k := 5) (R := GeC) ht hC (by omega) h (fun n cs y hl hy => by
    obtain ⟨c0, c1, c2, c3, c4, rfl⟩ := Jn hl
    obtain ⟨xs, m, _, _, _, hlen, hf⟩ := DataW.trod_struct hs hy
    obtain ⟨o0, k0⟩ := hone_of hone 0 f0 rfl
    obtain ⟨o1, k1⟩ := hone_of hone 1 f1 rfl
    obtain ⟨o2, k2⟩ := hone_of hone 2 f2 rfl
    obtain ⟨o3, k3⟩ := hone_of hone 3 f3 rfl
    obtain ⟨o4, k4⟩ := hone_of hone 4 f4 rfl
    match xs, hlen with
    | [y0, y1, y2, y3, y4], _ =>
      have h0 := hf 0 f0 rfl
      have h1 := hf 1 f1 rfl
      have h2 := hf 2 f2 rfl
      have h3 := hf 3 f3 rfl
      have h4 := hf 4 f4 rfl
      rw [o0, k0] at h0
      rw [o1, k1] at h1
      rw [o2, k2] at h2
      rw [o3, k3] at h3
      rw [o4, k4] at h4
      simp only [List.drop_zero, List.drop_succ_cons, List.take_succ_cons, List.take_zero] at h0 h1 h2 h3 h4
      rw [e0] at h0
      rw [e1] at h1
      rw [e2] at h2
      rw [e3] at h3
      rw [e4] at h4
      have one : ∀ {n c y}, DataW.trod enc P w 0 (fun _ => true) true n it [c] = some y → ∃ z, c = .int .i64 z ∧ I64 z := fun h => by
        obtain ⟨z, hz, _, hwf⟩ := DataW.trod_int hi h
        have hb := bounds_i64 hwf
        exact ⟨z, by simpa using hz, by omega, by omega⟩
      obtain ⟨z0, rfl, b0⟩ := one h0
      obtain ⟨z1, rfl, b1⟩ := one h1
      obtain ⟨z2, rfl, b2⟩ := one h2
      obtain ⟨z3, rfl, b3⟩ := one h3
      obtain ⟨z4, rfl, b4⟩ := one h4
      exact ⟨⟨z0, z1, z2, z3, z4⟩, rfl, b0, b1, b2, b3, b4⟩)
end
def bA (n : Int) (m : Nat) : Nat := (pick n m).toNat
theorem Ck (n : Int) {m : Nat} (h : 1 ≤ m) : pick n m = ((bA n m : Nat) : Int) := by have := TG n m (by omega); unfold bA; omega
theorem gQ (n : Int) {m : Nat} (h : 1 ≤ m) : bA n m < m := by have := TG n m (by omega); unfold bA; omega
def wF (g : Ge) : By := [iD ((97 + bA g.name 3 : Nat) : Int)]
def BJ (z : Int) : By := [iD ((107 + bA z 5 : Nat) : Int)]
def BK (k : Nat) (g : Ge) : Nat × Rq :=
  if k < 4 then (1, rq0) else if k < 7 then (2, ⟨wF g, BJ g.key, [], []⟩) else if k = 7 then (3, ⟨wF g, BJ g.key, BJ g.value, []⟩)
  else if k < 12 then (4, ⟨wF g, BJ g.key, [], [iD ((bA g.value 50 : Nat) : Int)]⟩) else if k = 12 then (5, ⟨wF g, BJ g.key, [], []⟩)
  else if k < 17 then (6, rq0) else if k = 17 then (7, rq0) else (8, ⟨wF g, BJ g.key, [], []⟩)
def kB (g : Ge) : Nat × Rq := BK (bA g.kind 20) g
theorem Fx (k : Nat) (g : Ge) : RqOk (BK k g).1 (BK k g).2 := by
 unfold BK
 split
 ·exact ⟨(by decide : 1 ≤ 1 ∧ 1 ≤ 8), by kernel_rfl⟩
 split
 ·exact ⟨(by decide : 1 ≤ 2 ∧ 2 ≤ 8), by kernel_rfl⟩
 split
 ·exact ⟨(by decide : 1 ≤ 3 ∧ 3 ≤ 8), by kernel_rfl⟩
 split
 ·exact ⟨(by decide : 1 ≤ 4 ∧ 4 ≤ 8), by kernel_rfl⟩
 split
 ·exact ⟨(by decide : 1 ≤ 5 ∧ 5 ≤ 8), by kernel_rfl⟩
 split
 ·exact ⟨(by decide : 1 ≤ 6 ∧ 6 ≤ 8), by kernel_rfl⟩
 split
 ·exact ⟨(by decide : 1 ≤ 7 ∧ 7 ≤ 8), by kernel_rfl⟩
 ·exact ⟨(by decide : 1 ≤ 8 ∧ 8 ≤ 8), by kernel_rfl⟩
theorem VH (g : Ge) : RqOk (kB g).1 (kB g).2 := Fx _ g
def kC (g : Ge) : Ac :=
  if bA g.kind 26 = 20 then .sync else if bA g.kind 26 = 21 then .sync else if bA g.kind 26 = 22 then .sync
  else if bA g.kind 26 = 23 then .crash (bA g.value 80) else if bA g.kind 26 = 24 then .start
  else if bA g.kind 26 = 25 then .ask (bA g.session 8) [iD g.value, iD g.key]
  else .ask (bA g.session 8) (BE (kB g).1 (kB g).2)
theorem Fy (g : Ge) : pH (kC g) := by
 have h8 := gQ g.session (m := 8) (by decide)
 have a0 := gQ g.value (m := 80) (by decide)
 unfold kC
 split
 ·trivial
 split
 ·trivial
 split
 ·trivial
 split
 ·show bA g.value 80 ≤ 100000; omega
 split
 ·trivial
 split
 ·exact ⟨h8, (by decide : 2 ≤ 4000)⟩
 ·exact Fv (a := .rq _ _ _) ⟨h8, VH g⟩
def aG (l : List Ge) (m : Nat) : List Ac := (l.take m).map kC
theorem aY (l : List Ge) (m : Nat) : (aG l m).length ≤ m := by simp [aG]; omega
theorem LE {l : List Ge} {i : Nat} {g : Ge} (h : l[i]? = some g) : aG l i ++ [kC g] = aG l (i + 1) := by
 obtain ⟨hk, rfl⟩ := List.getElem?_eq_some_iff.1 h
 unfold aG
 rw [List.take_succ_eq_append_getElem hk, List.map_append]; rfl
theorem AR {l : List Ge} {i m : Nat} (h : l.length ≤ i) (hm : i ≤ m) : aG l i = aG l m := by
 unfold aG; rw [List.take_of_length_le h, List.take_of_length_le (by omega)]
theorem pM (l : List Ge) (m : Nat) : ∀ a ∈ aG l m, pH a := by
 intro a ha
 obtain ⟨g, _, rfl⟩ := List.mem_map.1 ha
 exact Fy g
theorem XZ (l : List Ac) : fG l ≤ l.length := by
 induction l with
 | nil => exact Nat.le_refl _
 | cons a l ih =>
  have e : fG (a :: l) = (if isC a then 1 else 0) + fG l := by simp [fG]
  rw [e, List.length_cons]
  split <;> omega
section
variable {P : Program} {w0 w w' : World} {F0 F : Fz} {L : List Blk} {M : List RowP} {α : Type} {k E : Nat} {R : Fz → List Value → α → Prop} {hR : ∀ F F' x p, Le F F' → R F x p → R F' x p} {v : Value} {l : List α}
end
theorem IM {α : Type} {F F' : Fz} {R : Fz → List Value → α → Prop} (hR : ∀ F F' x p, Le F F' → R F x p → R F' x p) (hl : Le F F') : ∀ {el : List (List Value)} {l : List α}, AllR (R F) el l → AllR (R F') el l
  | [], [], _ => trivial
  | _ :: _, _ :: _, h => ⟨hR _ _ _ _ hl h.1, IM hR hl h.2⟩
theorem YA {P : Program} {o : Oper} {a : Act} {W w : World} {F F1 : Fz} {α : Type} {k : Nat} {R : Fz → List Value → α → Prop} (hR : ∀ F F' x p, Le F F' → R F x p → R F' x p) {el : List (List Value)} {l : List α} {E : TypeId} (g : Gr W F w F1) (hp : AllR (R F1) el l) (hk : ∀ x ∈ el, x.length = k) (hl : l.length ≤ maxLen)
    (hr : (execOp a.eval o).run P w = .ok (.value (.slice (some ⟨w.heap.size, 0, none⟩) l.length l.length)) (w.alloc (.cells el.flatten.toArray E))) : kI P o a w (kQ (Made W F fun F' u => Sl k R F' u l) w) := by
 unfold kI
 rw [hr]
 have g2 := g.new (.cells el.flatten.toArray E)
 have g3 := g2.add (g := w.heap.size) g.below.size
 have hle : Le F1 (addF F1 (w.alloc (.cells el.flatten.toArray E)) w.heap.size) := fun b o hb => uS _ _ _ _ _ hb
 refine ⟨⟨_, g3, gJ (R := R) (l := l) (c := el.flatten) (el := el) (fun j v hj => ?_) rfl (IM hR hle hp) hk hl⟩, (Below.refl _ _).alloc (Nat.le_refl _) _⟩
 unfold cI addF
 rw [g.sat.out (Nat.le_refl _)]
 simp only [if_true, heap_alloc_new]
 simpa using hj
theorem PP (n m : Int) (w : World) (h1 : -9223372036854775808 ≤ n) (h2 : n ≤ 9223372036854775807) (hm : 1 ≤ m) (hm2 : m ≤ 10000000) :
    Calls Tryz.prog 20 #[.int .i64 n, .int .i64 m] w (cR w (.int .i64 (pick n m))) := by
 have S := St.start (Sat.whole w)
 go_enter Tryz.func20, Tryz.ntmps20
 refine sk fun K1 hK1 => ?_
 refine dy ?_
 refine wn hK1 ?_
 refine sk fun K2 hK2 => ?_
 refine aC ?_
 refine aK (v := (.int .i64 (pick n m))) S rfl (fn2 (Gy _ _)) (dK (MJ n m _ h1 h2 hm hm2)) (fun w3 S4 => ?_)
 refine dy ?_
 refine wn hK2 ?_
 refine aN ?_
 try simp only [xt]
 refine bR (aZ rfl (gD rfl)) ?_
 exact ⟨rfl, S4.gr.below⟩
theorem Io : zV := fun w0 F0 w F n g L _ k hM hT hg hm hk => XT w0 F0 w F n g L k hM hT hg hm hk
theorem fH (n : Int) (m : Nat) (w : World) (h1 : -9223372036854775808 ≤ n) (h2 : n ≤ 9223372036854775807) (hm : 1 ≤ m) (hm2 : m ≤ 10000000) :
    Calls Tryz.prog 20 #[.int .i64 n, .int .i64 ((m : Nat) : Int)] w (cR w (.int .i64 ((bA n m : Nat) : Int))) := by
 rw [← Ck n hm]
 exact PP n m w h1 h2 (by omega) (by omega)
theorem ReqR.dropF {w : World} {F : Fz} {n : Nat} {cs : List Value} {T : TypeId} (hs : Sat w F) (hb : w.heap[n]? = some (.cells cs.toArray T (0, 0))) (hc : ∀ u ∈ cs, ∀ x, u ≠ bv x) {v : Value} {p : Nat × Rq} (h : ReqR F v p) : ReqR (Proofs.YtilgpdpooildcaaGreatDoor.dropF F n) v p := by
 obtain ⟨a, c, a1, c1, a2, c2, a3, c3, e, r, r1, r2, r3⟩ := h
 exact ⟨a, c, a1, c1, a2, c2, a3, c3, e, Bs.dropF hs hb hc r, Bs.dropF hs hb hc r1, Bs.dropF hs hb hc r2, Bs.dropF hs hb hc r3⟩
theorem LF (F : Fz) (w : World) (g : Ge) (hs : Sat w F) (hg : Fw g) :
    Calls Tryz.prog 19 #[.agg #[.int .i64 g.kind, .int .i64 g.session, .int .i64 g.name, .int .i64 g.key, .int .i64 g.value]] w (dE w F fun F' u => ReqR F' u (kB g)) := by
 have S := St.start hs
 go_enter Tryz.func19, Tryz.ntmps19
 refine aE fun K1 hK1 => ?_
 obtain ⟨⟨b0, b0'⟩, ⟨b1, b1'⟩, ⟨b2, b2'⟩, ⟨b3, b3'⟩, b4, b4'⟩ := hg
 refine aB ?_
 refine bG S (v := fun n => .pointer (aA n 0)) rfl (bX (v := (.agg #[(.int .i64 g.kind), (.int .i64 g.session), (.int .i64 g.name), (.int .i64 g.key), (.int .i64 g.value)])) rfl) (fun n2 w3 S4 => ?_)
 refine sA S4 (xZ _) fun n5 w6 S7 => ?_
 refine wlK hK1 ?_
 refine aE fun K8 hK8 => ?_
 have hp2 := gQ g.name (m := 3) (by decide)
 have hp3 := gQ g.key (m := 5) (by decide)
 obtain ⟨S9, h3, a1⟩ := St.freezeBlk S7 (i := 1) rfl
 generalize addF F w6 n2 = h4 at *
 refine aP h4 14 [(2, .is (nI (bA g.name 3))), (5, .made (fun F' u => Bs F' u [(iD (((97 + (bA g.name 3)) : Nat) : Int))])), (8, .is (nI (bA g.key 5))), (11, .made (fun F' u => Bs F' u [(iD (((107 + (bA g.key 5)) : Nat) : Int))])), (12, .made (fun F' u => ReqR F' u ((0, (⟨[(iD (((97 + (bA g.name 3)) : Nat) : Int))], [(iD (((107 + (bA g.key 5)) : Nat) : Int))], [], []⟩ : Rq)) : Nat × Rq))), (13, .rel (NewAt w6 [(iI 0), Zn, Zn, Zn, Zn] 27) (NewAt.stable _ _ _))] (by kernel_rfl) (by kernel_rfl) ?_
 simp only [cY]
 refine gf (TU _ _) ?_
 refine gv _ (fun _ a0 => aD rfl (aQ (bK _) (St.fz (St.tells S9 a0) (a1 2 _ rfl)))) ?_
 simp only [pq]
 refine fP rfl rfl (v := (nI (bA g.name 3))) (fun b7 a0 _ => bS (bZ (vs := #[(.int .i64 g.name), (iI 3)]) (gF rfl rfl) rfl (oQ _ _)) (fB (fH g.name 3 _ (by omega) (by omega) (by decide) (by decide)))) ?_
 refine gv (nI (97 + (bA g.name 3))) (fun _ _ => gA (m := (97 : Int)) (n := (((bA g.name 3) : Nat) : Int)) (r := (((97 + (bA g.name 3)) : Nat) : Int)) rfl rfl (by omega) (by omega) (by omega)) ?_
 refine gv (.int .u8 (((iD (((97 + (bA g.name 3)) : Nat) : Int)).toNat : Nat) : Int)) (fun _ _ => bJ (v := (nI (97 + (bA g.name 3)))) rfl (vV (((97 + (bA g.name 3)) : Nat) : Int) _)) ?_
 simp only [pq]
 refine eC rfl rfl (fun b7 a0 _ => IL (b := (iD (((97 + (bA g.name 3)) : Nat) : Int))) (Gr.of_below S9.sat a0) (cM (ps := #[(0, (.int .u8 (((iD (((97 + (bA g.name 3)) : Nat) : Int)).toNat : Nat) : Int)))]) (cells := #[(.int .u8 (((iD (((97 + (bA g.name 3)) : Nat) : Int)).toNat : Nat) : Int))]) (E := 5) (cT rfl) (fun w => by kernel_rfl))) (fun m9 => ?_)
 refine gf (JM _ _) ?_
 refine gv _ (fun _ a0 => aD rfl (aQ (bK _) (St.fz (St.tells S9 a0) (a1 3 _ rfl)))) ?_
 simp only [pq]
 refine fP rfl rfl (v := (nI (bA g.key 5))) (fun b7 a0 _ => bS (bZ (vs := #[(.int .i64 g.key), (iI 5)]) (gF rfl rfl) rfl (oQ _ _)) (fB (fH g.key 5 _ (by omega) (by omega) (by decide) (by decide)))) ?_
 refine gv (nI (107 + (bA g.key 5))) (fun _ _ => gA (m := (107 : Int)) (n := (((bA g.key 5) : Nat) : Int)) (r := (((107 + (bA g.key 5)) : Nat) : Int)) rfl rfl (by omega) (by omega) (by omega)) ?_
 refine gv (.int .u8 (((iD (((107 + (bA g.key 5)) : Nat) : Int)).toNat : Nat) : Int)) (fun _ _ => bJ (v := (nI (107 + (bA g.key 5)))) rfl (vV (((107 + (bA g.key 5)) : Nat) : Int) _)) ?_
 simp only [pq]
 refine eC rfl rfl (fun b7 a0 _ => IL (b := (iD (((107 + (bA g.key 5)) : Nat) : Int))) (Gr.of_below S9.sat a0) (cM (ps := #[(0, (.int .u8 (((iD (((107 + (bA g.key 5)) : Nat) : Int)).toNat : Nat) : Int)))]) (cells := #[(.int .u8 (((iD (((107 + (bA g.key 5)) : Nat) : Int)).toNat : Nat) : Int))]) (E := 5) (cT rfl) (fun w => by kernel_rfl))) (fun n0 => ?_)
 simp only [pq]
 refine eC rfl rfl (fun b7 a0 hF_ => ?_) (fun n1 => ?_)
 ·obtain ⟨e3, f9, h5⟩ := hF_.get 5 (by kernel_rfl) rfl rfl
  obtain ⟨e4, g0, h6⟩ := hF_.get 11 (by kernel_rfl) rfl rfl
  have hR1 := (h5.mono (lD e3 e4))
  obtain ⟨h7, h8, rfl, _⟩ := hR1.shape
  have hR2 := (h6.mono (mE f9.sat g0.sat))
  obtain ⟨h9, i0, rfl, _⟩ := hR2.shape
  have hR3 := Bs.nil (both e3 e4)
  have hR4 := Bs.nil (both e3 e4)
  exact iA (aL (eP rfl rfl) (by kernel_rfl)) ⟨(both e3 e4), (f9.both g0), ⟨_, _, _, _, _, _, _, _, rfl, hR1, hR2, hR3, hR4⟩⟩ (Below.refl _ _)
 simp only [pq]
 refine eC rfl rfl (fun b7 a0 _ => jR (cs := [(iI 0), Zn, Zn, Zn, Zn]) (xZ _) rfl a0) (fun n3 => ?_)
 refine bU ?_
 intro n4 i1 a8
 obtain ⟨i2, rfl, b9, c0⟩ := a8.getR 13 rfl rfl
 have a9 : ∀ u ∈ [(.int .i64 0), (.slice none 0 0), (.slice none 0 0), (.slice none 0 0), (.slice none 0 0)], ∀ x, u ≠ bv x := by intro u hu x; simp only [List.mem_cons, List.not_mem_nil, or_false] at hu; rcases hu with rfl | rfl | rfl | rfl | rfl <;> (unfold bv; simp)
 obtain ⟨i3, g1, i4⟩ := a8.get 12 rfl rfl
 have g2 := g1.dropF S9.sat b9
 have i5 := ReqR.dropF g1.sat c0 a9 i4
 have i6 := St.addBlk (cs := [(.int .i64 0), (.slice none 0 0), (.slice none 0 0), (.slice none 0 0), (.slice none 0 0)]) S9 g2 b9 (oT _ _) c0
 have b5 : Le _ _ := g2.le S9.sat
 have i7 := i5
 generalize (dropF i3 i2) = g3 at *
 obtain ⟨i8, i9, j0, j1, j2, j3, j4, j5, rfl, c1, c2, e5, e6⟩ := i7
 clear a8
 simp only [cZ]
 refine sW 0 i6 (bI) fun n6 g4 => ?_
 simp only [pq]
 refine wlK hK8 ?_
 refine aE fun n7 a2 => ?_
 refine sk fun n8 e7 => ?_
 refine df (JK _ _) ?_
 refine dr _ (aD rfl (aQ (bK _) (St.fz g4 (Le.cell b5 (a1 0 _ rfl))))) ?_
 simp only [pq]
 have j6 := gQ g.kind (m := 20) (by decide)
 refine aK (v := (nI (bA g.kind 20))) g4 rfl (fn2 (oQ _ _)) (fH g.kind 20 _ (by omega) (by omega) (by decide) (by decide)) (fun n9 a4 => ?_)
 refine dy ?_
 refine wn e7 ?_
 refine aO ?_
 refine sk fun o0 c3 => ?_
 refine dx ?_
 simp only [pq]
 by_cases j7 : (bA g.kind 20) < 4
 ·refine eQ ?_
  refine dy ?_
  refine wn c3 ?_
  refine aJ ?_
  refine sk fun o1 e8 => ?_
  refine dr (.agg #[(iI 1), Zn, Zn, Zn, Zn]) (aL (cT rfl) (by kernel_rfl)) ?_
  simp only [pq]
  refine sW 1 a4 (bI) fun o2 g5 => ?_
  refine wn e8 ?_
  refine aN ?_
  try simp only [xt]
  refine bR (lG rfl ⟨_, rfl, lR g5 1 Tryz.underlying27 (bI)⟩) ?_
  ·have e : kB g = (1, rq0) := by
    unfold kB BK
    rw [if_pos (by omega)]
   refine ⟨_, _, rfl, g5.gr, ?_⟩
   rw [e]
   exact ⟨_, _, _, _, _, _, _, _, rfl, Bs.nil _, Bs.nil _, Bs.nil _, Bs.nil _⟩
 ·refine eL ?_
  refine dy ?_
  simp only [pq]
  refine wn c3 ?_
  refine aF ?_
  refine sk fun o3 c4 => ?_
  refine dx ?_
  simp only [pq]
  by_cases j8 : (bA g.kind 20) < 7
  ·refine eQ ?_
   refine dy ?_
   refine wn c4 ?_
   refine aJ ?_
   refine aB ?_
   refine aC ?_
   refine sW 0 a4 (qJ) fun o4 g6 => ?_
   refine wlK a2 ?_
   refine sk fun o5 e9 => ?_
   refine dR g6 0 Tryz.underlying27 (bI) ?_
   refine sW 1 g6 (bI) fun o6 g7 => ?_
   simp only [pq]
   refine wn e9 ?_
   refine aN ?_
   try simp only [xt]
   refine bR (lG rfl ⟨_, rfl, lR g7 1 Tryz.underlying27 (bI)⟩) ?_
   ·have e : kB g = (2, ⟨wF g, BJ g.key, [], []⟩) := by
     unfold kB BK
     rw [if_neg (by omega), if_pos (by omega)]
    refine ⟨_, _, rfl, g7.gr, ?_⟩
    rw [e]
    exact ⟨_, _, _, _, _, _, _, _, rfl, c1, c2, e5, e6⟩
  ·refine eL ?_
   refine dy ?_
   refine wn c4 ?_
   refine aF ?_
   refine sk fun o7 c5 => ?_
   refine dx ?_
   simp only [pq]
   by_cases j9 : (bA g.kind 20) = 7
   ·refine gT ?_
    refine dy ?_
    refine wn c5 ?_
    refine aJ ?_
    refine sk fun o8 f0 => ?_
    refine aC ?_
    refine sW 0 a4 (qJ) fun o9 g8 => ?_
    refine wn f0 ?_
    refine aB ?_
    refine df (yE _ _) ?_
    refine dr _ (aD rfl (aQ (bK _) (St.fz g8 (Le.cell b5 (a1 4 _ rfl))))) ?_
    simp only [pq]
    have k0 := gQ g.value (m := 5) (by decide)
    refine aK (v := (nI (bA g.value 5))) g8 rfl (fn2 (oQ _ _)) (fH g.value 5 _ (by omega) (by omega) (by decide) (by decide)) (fun p0 k1 => ?_)
    refine cV (107 + (bA g.value 5)) ?_
    refine dr (.int .u8 (((iD (((107 + (bA g.value 5)) : Nat) : Int)).toNat : Nat) : Int)) (bJ (v := (nI (107 + (bA g.value 5)))) rfl (vV (((107 + (bA g.value 5)) : Nat) : Int) _)) ?_
    refine bG k1 (v := fun n => .slice (aA n 0) 1 1) rfl (cM (ps := #[(0, (.int .u8 (((iD (((107 + (bA g.value 5)) : Nat) : Int)).toNat : Nat) : Int)))]) (cells := #[(.int .u8 (((iD (((107 + (bA g.value 5)) : Nat) : Int)).toNat : Nat) : Int))]) (E := 5) (cT rfl) (fun w => by kernel_rfl)) (fun g9 p1 k2 => ?_)
    refine aC ?_
    refine sW 1 k2 (kS) fun p2 h0 => ?_
    refine wlK a2 ?_
    refine sk fun p3 f1 => ?_
    refine dR h0 1 Tryz.underlying27 (bI) ?_
    simp only [pq]
    refine sW 2 h0 (bI) fun k3 h1 => ?_
    refine wn f1 ?_
    refine aN ?_
    try simp only [xt]
    refine bR (lG rfl ⟨_, rfl, lR h1 2 Tryz.underlying27 (bI)⟩) ?_
    ·obtain ⟨k4, b6, f2⟩ := St.freezeBlk h1 (i := 0) rfl
     have k5 : Bs _ (.slice (some ⟨g9, 0, none⟩) 1 1) ([iD (((107 + (bA g.value 5)) : Nat) : Int)] : By) := lH (l := ([iD (((107 + (bA g.value 5)) : Nat) : Int)] : By)) f2 (rfl) (by unfold maxLen; simp)
     generalize addF g3 k3 g9 = p4 at *
     have e : kB g = (3, ⟨wF g, BJ g.key, BJ g.value, []⟩) := by
      unfold kB BK
      rw [if_neg (by omega), if_neg (by omega), if_pos (by omega)]
     refine ⟨_, _, rfl, k4.gr, ?_⟩
     rw [e]
     exact ⟨_, _, _, _, _, _, _, _, rfl, (c1.mono b6), (c2.mono b6), k5, (e6.mono b6)⟩
   ·refine gB ?_
    refine dy ?_
    simp only [pq]
    refine wn c5 ?_
    refine aF ?_
    refine sk fun p5 c6 => ?_
    refine dx ?_
    simp only [pq]
    by_cases k6 : (bA g.kind 20) < 12
    ·refine eQ ?_
     refine dy ?_
     refine wn c6 ?_
     refine aJ ?_
     refine sk fun p6 f3 => ?_
     refine aC ?_
     refine sW 0 a4 (qJ) fun k7 c7 => ?_
     refine wn f3 ?_
     refine aB ?_
     refine df (yE _ _) ?_
     refine dr _ (aD rfl (aQ (bK _) (St.fz c7 (Le.cell b5 (a1 4 _ rfl))))) ?_
     simp only [pq]
     have h2 := gQ g.value (m := 50) (by decide)
     refine aK (v := (nI (bA g.value 50))) c7 rfl (fn2 (oQ _ _)) (fH g.value 50 _ (by omega) (by omega) (by decide) (by decide)) (fun k8 f4 => ?_)
     refine dr (.int .u8 (((iD (((bA g.value 50) : Nat) : Int)).toNat : Nat) : Int)) (bJ (v := (nI (bA g.value 50))) rfl (vV (((bA g.value 50) : Nat) : Int) _)) ?_
     refine bG f4 (v := fun n => .slice (aA n 0) 1 1) rfl (cM (ps := #[(0, (.int .u8 (((iD (((bA g.value 50) : Nat) : Int)).toNat : Nat) : Int)))]) (cells := #[(.int .u8 (((iD (((bA g.value 50) : Nat) : Int)).toNat : Nat) : Int))]) (E := 5) (cT rfl) (fun w => by kernel_rfl)) (fun c8 k9 f5 => ?_)
     refine aC ?_
     refine sW 1 f5 (kS) fun l0 c9 => ?_
     refine wlK a2 ?_
     refine sk fun l1 d0 => ?_
     refine dR c9 1 Tryz.underlying27 (bI) ?_
     simp only [pq]
     refine sW 2 c9 (bI) fun f6 d1 => ?_
     refine wn d0 ?_
     refine aN ?_
     try simp only [xt]
     refine bR (lG rfl ⟨_, rfl, lR d1 2 Tryz.underlying27 (bI)⟩) ?_
     ·obtain ⟨f7, a3, d2⟩ := St.freezeBlk d1 (i := 0) rfl
      have f8 : Bs _ (.slice (some ⟨c8, 0, none⟩) 1 1) ([iD (((bA g.value 50) : Nat) : Int)] : By) := lH (l := ([iD (((bA g.value 50) : Nat) : Int)] : By)) d2 (rfl) (by unfold maxLen; simp)
      generalize addF g3 f6 c8 = l2 at *
      have e : kB g = (4, ⟨wF g, BJ g.key, [], [iD ((bA g.value 50 : Nat) : Int)]⟩) := by
       unfold kB BK
       rw [if_neg (by omega), if_neg (by omega), if_neg (by omega), if_pos (by omega)]
      refine ⟨_, _, rfl, f7.gr, ?_⟩
      rw [e]
      exact ⟨_, _, _, _, _, _, _, _, rfl, (c1.mono a3), (c2.mono a3), (e5.mono a3), f8⟩
    ·refine eL ?_
     refine aC ?_
     refine wn c6 ?_
     refine aF ?_
     refine sk fun l3 a5 => ?_
     refine aC ?_
     by_cases l4 : (bA g.kind 20) = 12
     ·refine gT ?_
      refine dy ?_
      refine wn a5 ?_
      refine aJ ?_
      refine aB ?_
      refine aC ?_
      refine sW 0 a4 (qJ) fun l5 d3 => ?_
      refine wlK a2 ?_
      refine sk fun l6 d4 => ?_
      refine dR d3 0 Tryz.underlying27 (bI) ?_
      refine sW 1 d3 (bI) fun l7 d5 => ?_
      simp only [pq]
      refine wn d4 ?_
      refine aN ?_
      try simp only [xt]
      refine bR (lG rfl ⟨_, rfl, lR d5 1 Tryz.underlying27 (bI)⟩) ?_
      ·have e : kB g = (5, ⟨wF g, BJ g.key, [], []⟩) := by
        unfold kB BK
        rw [if_neg (by omega), if_neg (by omega), if_neg (by omega), if_neg (by omega), if_pos (by omega)]
       refine ⟨_, _, rfl, d5.gr, ?_⟩
       rw [e]
       exact ⟨_, _, _, _, _, _, _, _, rfl, c1, c2, e5, e6⟩
     ·refine gB ?_
      refine dy ?_
      refine wn a5 ?_
      refine aF ?_
      refine sk fun l8 a6 => ?_
      refine aC ?_
      by_cases l9 : (bA g.kind 20) < 17
      ·refine eQ ?_
       refine dy ?_
       refine wn a6 ?_
       refine aJ ?_
       refine sk fun m0 d6 => ?_
       refine dr (.agg #[(iI 6), Zn, Zn, Zn, Zn]) (aL (cT rfl) (by kernel_rfl)) ?_
       simp only [pq]
       refine sW 1 a4 (bI) fun m1 d7 => ?_
       refine wn d6 ?_
       refine aN ?_
       try simp only [xt]
       refine bR (lG rfl ⟨_, rfl, lR d7 1 Tryz.underlying27 (bI)⟩) ?_
       ·have e : kB g = (6, rq0) := by
         unfold kB BK
         rw [if_neg (by omega), if_neg (by omega), if_neg (by omega), if_neg (by omega), if_neg (by omega), if_pos (by omega)]
        refine ⟨_, _, rfl, d7.gr, ?_⟩
        rw [e]
        exact ⟨_, _, _, _, _, _, _, _, rfl, Bs.nil _, Bs.nil _, Bs.nil _, Bs.nil _⟩
      ·refine eL ?_
       refine aC ?_
       refine wn a6 ?_
       refine aF ?_
       refine sk fun m2 a7 => ?_
       refine aC ?_
       by_cases m3 : (bA g.kind 20) = 17
       ·refine gT ?_
        refine dy ?_
        refine wn a7 ?_
        refine aJ ?_
        refine sk fun m4 d8 => ?_
        refine dr (.agg #[(iI 7), Zn, Zn, Zn, Zn]) (aL (cT rfl) (by kernel_rfl)) ?_
        simp only [pq]
        refine sW 1 a4 (bI) fun m5 d9 => ?_
        refine wn d8 ?_
        refine aN ?_
        try simp only [xt]
        refine bR (lG rfl ⟨_, rfl, lR d9 1 Tryz.underlying27 (bI)⟩) ?_
        ·have e : kB g = (7, rq0) := by
          unfold kB BK
          rw [if_neg (by omega), if_neg (by omega), if_neg (by omega), if_neg (by omega), if_neg (by omega), if_neg (by omega), if_pos (by omega)]
         refine ⟨_, _, rfl, d9.gr, ?_⟩
         rw [e]
         exact ⟨_, _, _, _, _, _, _, _, rfl, Bs.nil _, Bs.nil _, Bs.nil _, Bs.nil _⟩
       ·refine gB ?_
        refine aC ?_
        refine wn a7 ?_
        refine aF ?_
        refine aB ?_
        refine df (lU _ _) ?_
        refine sW 0 a4 (qJ) fun m6 e0 => ?_
        refine wlK a2 ?_
        refine sk fun m7 e1 => ?_
        refine dR e0 0 Tryz.underlying27 (bI) ?_
        simp only [pq]
        refine sW 1 e0 (bI) fun m8 e2 => ?_
        refine wn e1 ?_
        refine aN ?_
        try simp only [xt]
        refine bR (lG rfl ⟨_, rfl, lR e2 1 Tryz.underlying27 (bI)⟩) ?_
        ·have e : kB g = (8, ⟨wF g, BJ g.key, [], []⟩) := by
          unfold kB BK
          rw [if_neg (by omega), if_neg (by omega), if_neg (by omega), if_neg (by omega), if_neg (by omega), if_neg (by omega), if_neg (by omega)]
         refine ⟨_, _, rfl, e2.gr, ?_⟩
         rw [e]
         exact ⟨_, _, _, _, _, _, _, _, rfl, c1, c2, e5, e6⟩
theorem TA {P : Program} {o : Oper} {a : Act} {W w : World} {F F1 : Fz} {b c : UInt8} {E : TypeId} (g : Gr W F w F1)
    (hr : (execOp a.eval o).run P w = .ok (.value (.slice (some ⟨w.heap.size, 0, none⟩) 2 2)) (w.alloc (.cells #[bv b, bv c] E))) : kI P o a w (kQ (Made W F fun F' u => Bs F' u [b, c]) w) := by
 have h := YA (R := ByC) ByC.mono (l := [b, c]) (el := [[bv b], [bv c]]) (k := 1) g ⟨rfl, rfl, trivial⟩ (by simp) (by unfold maxLen; simp) hr
 unfold kI at h ⊢
 rw [hr] at h ⊢
 obtain ⟨⟨F', h2, h3⟩, h4⟩ := h
 exact ⟨⟨F', h2, eD h3⟩, h4⟩
theorem Cl (F : Fz) (w : World) (g : Ge) (hs : Sat w F) (hT : Has w ∧ Tabs w) (hg : Fw g) :
    Calls Tryz.prog 37 #[.agg #[.int .i64 g.kind, .int .i64 g.session, .int .i64 g.name, .int .i64 g.key, .int .i64 g.value]] w (dE w F fun F' u => AcV F' u (kC g)) := by
 have S := St.start hs
 go_enter Tryz.func37, Tryz.ntmps37
 refine aE fun h8 b9 => ?_
 have hg_ := hg
 obtain ⟨⟨b0, b0'⟩, ⟨b1, b1'⟩, ⟨b2, b2'⟩, ⟨b3, b3'⟩, b4, b4'⟩ := hg_
 refine aB ?_
 refine bG S (v := fun n => .pointer (aA n 0)) rfl (bX (v := (.agg #[(.int .i64 g.kind), (.int .i64 g.session), (.int .i64 g.name), (.int .i64 g.key), (.int .i64 g.value)])) rfl) (fun f5 h9 f6 => ?_)
 refine sA f6 (xY _) fun i0 f7 f8 => ?_
 refine wlK b9 ?_
 refine aE fun i1 c0 => ?_
 refine aE fun i2 c1 => ?_
 obtain ⟨c2, h1, a1⟩ := St.freezeBlk f8 (i := 1) rfl
 generalize addF F f7 f5 = c3 at *
 refine aB ?_
 refine df (JK _ _) ?_
 refine dr _ (aD rfl (aQ (bK _) (St.fz c2 (a1 0 _ rfl)))) ?_
 simp only [pq]
 have h2 := gQ g.kind (m := 26) (by decide)
 refine aK (v := (nI (bA g.kind 26))) c2 rfl (fn2 (oQ _ _)) (fH g.kind 26 _ (by omega) (by omega) (by decide) (by decide)) (fun i3 a0 => ?_)
 refine wlK c1 ?_
 refine aO ?_
 refine aE fun i4 a3 => ?_
 refine sk fun i5 a5 => ?_
 by_cases hc7 : (bA g.kind 26) = 20
 ·refine gT ?_
  refine dy ?_
  refine wn a5 ?_
  refine aJ ?_
  refine aI ?_
  refine a3 _ _ ?_
  refine aJ ?_
  refine sk fun i6 c4 => ?_
  refine dr (.agg #[(iI 2), (iI 0), (iI 0), Zn]) (aL (cT rfl) (by kernel_rfl)) ?_
  simp only [pq]
  refine sW 0 a0 (fA) fun i7 c5 => ?_
  refine wn c4 ?_
  refine aN ?_
  try simp only [xt]
  refine bR (lG rfl ⟨_, rfl, lR c5 0 Tryz.underlying33 (fA)⟩) ?_
  ·have e : kC g = .sync := by
    unfold kC
    rw [if_pos (by omega)]
   refine ⟨_, _, rfl, c5.gr, ?_⟩
   rw [e]
   exact ⟨_, _, rfl, Bs.nil _⟩
 ·refine gB ?_
  refine dy ?_
  simp only [pq]
  refine wn a5 ?_
  refine aF ?_
  refine sk fun i8 a6 => ?_
  by_cases hc8 : (bA g.kind 26) = 21
  ·refine gT ?_
   refine dy ?_
   refine wn a6 ?_
   refine aJ ?_
   refine aI ?_
   refine a3 _ _ ?_
   refine aJ ?_
   refine sk fun i9 c6 => ?_
   refine dr (.agg #[(iI 2), (iI 0), (iI 0), Zn]) (aL (cT rfl) (by kernel_rfl)) ?_
   simp only [pq]
   refine sW 0 a0 (fA) fun j0 c7 => ?_
   refine wn c6 ?_
   refine aN ?_
   try simp only [xt]
   refine bR (lG rfl ⟨_, rfl, lR c7 0 Tryz.underlying33 (fA)⟩) ?_
   ·have e : kC g = .sync := by
     unfold kC
     rw [if_neg (by omega), if_pos (by omega)]
    refine ⟨_, _, rfl, c7.gr, ?_⟩
    rw [e]
    exact ⟨_, _, rfl, Bs.nil _⟩
  ·refine gB ?_
   refine dy ?_
   simp only [pq]
   refine wn a6 ?_
   refine aF ?_
   refine aB ?_
   by_cases hc9 : (bA g.kind 26) = 22
   ·refine gT ?_
    refine dy ?_
    refine wlK a3 ?_
    refine aJ ?_
    refine sk fun j1 c8 => ?_
    refine dr (.agg #[(iI 2), (iI 0), (iI 0), Zn]) (aL (cT rfl) (by kernel_rfl)) ?_
    simp only [pq]
    refine sW 0 a0 (fA) fun j2 c9 => ?_
    refine wn c8 ?_
    refine aN ?_
    try simp only [xt]
    refine bR (lG rfl ⟨_, rfl, lR c9 0 Tryz.underlying33 (fA)⟩) ?_
    ·have e : kC g = .sync := by
      unfold kC
      rw [if_neg (by omega), if_neg (by omega), if_pos (by omega)]
     refine ⟨_, _, rfl, c9.gr, ?_⟩
     rw [e]
     exact ⟨_, _, rfl, Bs.nil _⟩
   ·refine gB ?_
    refine dy ?_
    simp only [pq]
    refine wlK a3 ?_
    refine aF ?_
    refine sk fun j3 a7 => ?_
    by_cases j4 : (bA g.kind 26) = 23
    ·refine gT ?_
     refine dy ?_
     refine wn a7 ?_
     refine aJ ?_
     refine sk fun j5 d0 => ?_
     refine df (yE _ _) ?_
     refine dr _ (aD rfl (aQ (bK _) (St.fz a0 (a1 4 _ rfl)))) ?_
     simp only [pq]
     have h3 := gQ g.value (m := 80) (by decide)
     refine aK (v := (nI (bA g.value 80))) a0 rfl (fn2 (oQ _ _)) (fH g.value 80 _ (by omega) (by omega) (by decide) (by decide)) (fun j6 f9 => ?_)
     refine dr (.agg #[(iI 3), (iI 0), (nI (bA g.value 80)), Zn]) (aL (eP rfl rfl) (by kernel_rfl)) ?_
     refine sW 0 f9 (fA) fun j7 d1 => ?_
     refine wn d0 ?_
     refine aN ?_
     try simp only [xt]
     refine bR (lG rfl ⟨_, rfl, lR d1 0 Tryz.underlying33 (fA)⟩) ?_
     ·have e : kC g = .crash (bA g.value 80) := by
       unfold kC
       rw [if_neg (by omega), if_neg (by omega), if_neg (by omega), if_pos (by omega)]
      refine ⟨_, _, rfl, d1.gr, ?_⟩
      rw [e]
      exact ⟨_, _, rfl, Bs.nil _⟩
    ·refine gB ?_
     refine aC ?_
     refine wn a7 ?_
     refine aF ?_
     refine sk fun j8 a8 => ?_
     by_cases j9 : (bA g.kind 26) = 24
     ·refine gT ?_
      refine dy ?_
      refine wn a8 ?_
      refine aJ ?_
      refine sk fun k0 d2 => ?_
      refine dr (.agg #[(iI 4), (iI 0), (iI 0), Zn]) (aL (cT rfl) (by kernel_rfl)) ?_
      simp only [pq]
      refine sW 0 a0 (fA) fun k1 d3 => ?_
      refine wn d2 ?_
      refine aN ?_
      try simp only [xt]
      refine bR (lG rfl ⟨_, rfl, lR d3 0 Tryz.underlying33 (fA)⟩) ?_
      ·have e : kC g = .start := by
        unfold kC
        rw [if_neg (by omega), if_neg (by omega), if_neg (by omega), if_neg (by omega), if_pos (by omega)]
       refine ⟨_, _, rfl, d3.gr, ?_⟩
       rw [e]
       exact ⟨_, _, rfl, Bs.nil _⟩
     ·refine gB ?_
      refine aC ?_
      refine wn a8 ?_
      refine aF ?_
      refine sk fun k2 a9 => ?_
      by_cases k3 : (bA g.kind 26) = 25
      ·refine gT ?_
       refine dy ?_
       refine wn a9 ?_
       refine aJ ?_
       refine aE fun k4 d4 => ?_
       have hp8 := gQ g.session (m := 8) (by decide)
       refine aP c3 10 [(2, .is (nI (bA g.session 8))), (9, .made (fun F' u => Bs F' u [(iD g.value), (iD g.key)]))] (by kernel_rfl) (by kernel_rfl) ?_
       simp only [cY]
       refine gf (JL _ _) ?_
       simp only [pq]
       refine gv _ (fun _ a2 => aD rfl (aQ (bK _) (St.fz (St.tells a0 a2) (a1 1 _ rfl)))) ?_
       simp only [pq]
       refine fP rfl rfl (v := (nI (bA g.session 8))) (fun g0 a2 _ => bS (bZ (vs := #[(.int .i64 g.session), (iI 8)]) (gF rfl rfl) rfl (oQ _ _)) (fB (fH g.session 8 _ (by omega) (by omega) (by decide) (by decide)))) ?_
       refine gf (yE _ _) ?_
       refine gv _ (fun _ a2 => aD rfl (aQ (bK _) (St.fz (St.tells a0 a2) (a1 4 _ rfl)))) ?_
       refine gv (.int .u8 (((iD g.value).toNat : Nat) : Int)) (fun _ _ => bJ (v := (.int .i64 g.value)) rfl (vV g.value _)) ?_
       simp only [pq]
       refine gf (JM _ _) ?_
       refine gv _ (fun _ a2 => aD rfl (aQ (bK _) (St.fz (St.tells a0 a2) (a1 3 _ rfl)))) ?_
       refine gv (.int .u8 (((iD g.key).toNat : Nat) : Int)) (fun _ _ => bJ (v := (.int .i64 g.key)) rfl (vV g.key _)) ?_
       simp only [pq]
       refine eC rfl rfl (fun g0 a2 _ => TA (b := (iD g.value)) (c := (iD g.key)) (Gr.of_below a0.sat a2) (cM (cells := #[(.int .u8 (((iD g.value).toNat : Nat) : Int)), (.int .u8 (((iD g.key).toNat : Nat) : Int))]) (E := 5) (eP rfl rfl) (fun w => by kernel_rfl))) (fun k5 => ?_)
       refine bU ?_
       intro k6 h4 b5
       obtain ⟨g1, d5, g2⟩ := b5.get 9 rfl rfl
       have g3 := St.gives a0 d5
       have h5 : Le _ _ := d5.le a0.sat
       have d6 := g2
       generalize g1 = k7 at *
       obtain ⟨d7, d8, rfl, _⟩ := d6.shape
       clear b5
       simp only [cZ]
       refine dr (.agg #[(iI 1), (nI (bA g.session 8)), (iI 0), (.slice d7 [(iD g.value), (iD g.key)].length d8)]) (aL (TM rfl rfl rfl) (by kernel_rfl)) ?_
       simp only [pq]
       refine sW 0 g3 (fA) fun k8 d9 => ?_
       refine wlK d4 ?_
       refine aN ?_
       try simp only [xt]
       refine bR (lG rfl ⟨_, rfl, lR d9 0 Tryz.underlying33 (fA)⟩) ?_
       ·have e : kC g = .ask (bA g.session 8) [iD g.value, iD g.key] := by
         unfold kC
         rw [if_neg (by omega), if_neg (by omega), if_neg (by omega), if_neg (by omega), if_neg (by omega), if_pos (by omega)]
        refine ⟨_, _, rfl, d9.gr, ?_⟩
        rw [e]
        exact ⟨_, _, rfl, d6⟩
      ·refine gB ?_
       refine aC ?_
       refine wn a9 ?_
       refine aF ?_
       refine aI ?_
       refine c0 _ _ ?_
       refine aE fun k9 e0 => ?_
       have hp8 := gQ g.session (m := 8) (by decide)
       refine aP c3 4 [(2, .is (nI (bA g.session 8)))] (by kernel_rfl) (by kernel_rfl) ?_
       simp only [cY]
       refine gf (JL _ _) ?_
       refine gv _ (fun _ a4 => aD rfl (aQ (bK _) (St.fz (St.tells a0 a4) (a1 1 _ rfl)))) ?_
       simp only [pq]
       refine fP rfl rfl (v := (nI (bA g.session 8))) (fun l0 a4 _ => bS (bZ (vs := #[(.int .i64 g.session), (iI 8)]) (gF rfl rfl) rfl (oQ _ _)) (fB (fH g.session 8 _ (by omega) (by omega) (by decide) (by decide)))) ?_
       refine gv _ (fun _ a4 => aD rfl (cX Tryz.underlying31 rfl (TT) (zU (c := [(.int .i64 g.kind), (.int .i64 g.session), (.int .i64 g.name), (.int .i64 g.key), (.int .i64 g.value)]) (St.tells a0 a4).sat a1))) ?_
       refine bU ?_
       intro l1 e1 e2
       clear e2
       have e3 := St.tells a0 e1
       simp only [cZ]
       refine aR e3 rfl (fn1 (Gw _ _)) (LF _ _ g (e3).sat hg) ?_
       intro l2 l3 l4 b6 h6 g4
       obtain ⟨e4, e5, e6, e7, e8, e9, f0, f1, rfl, g5, g6, g7, g8⟩ := g4
       simp only [pq]
       refine aR b6 rfl (bZ (vs := #[(nI (bA g.session 8)), (.agg #[(.int .i64 (((kB g).1 : Nat) : Int)), (.slice e4 ((kB g).2.name).length e5), (.slice e6 ((kB g).2.key).length e7), (.slice e8 ((kB g).2.last).length e9), (.slice f0 ((kB g).2.value).length f1)])]) (gF rfl rfl) rfl (Gx _ _)) (PO _ _ _ (bA g.session 8) ((kB g).1) (kB g).2 (b6).sat (hT.1.below b6.gr.below) ⟨_, _, _, _, rfl, g5, g6, g7, g8⟩ (VH g)) ?_
       intro l5 l6 l7 g9 h7 h0
       obtain ⟨f2, f3, rfl, b7⟩ := h0
       have b7 : Bs _ (.slice f2 (BE ((kB g).1) (kB g).2).length f3) (BE ((kB g).1) (kB g).2) := b7
       refine sW 0 g9 (fA) fun l8 f4 => ?_
       refine wlK e0 ?_
       refine aN ?_
       try simp only [xt]
       refine bR (lG rfl ⟨_, rfl, lR f4 0 Tryz.underlying33 (fA)⟩) ?_
       ·have e : kC g = .ask (bA g.session 8) (BE (kB g).1 (kB g).2) := by
         unfold kC
         rw [if_neg (by omega), if_neg (by omega), if_neg (by omega), if_neg (by omega), if_neg (by omega), if_neg (by omega)]
        refine ⟨_, _, rfl, f4.gr, ?_⟩
        rw [e]
        exact ⟨_, _, rfl, b7⟩
theorem uR (F : Fz) (w : World) (v : Value) (l : List Ge) (m : Nat) (hs : Sat w F) (hT : Has w ∧ Tabs w) (hv : Ges F v l) (hm : m ≤ 1000) :
    Calls Tryz.prog 25 #[v, .int .i64 ((m : Nat) : Int)] w (qI w F 4 AcC 33 (aG l m)) := by
 obtain ⟨a, c, rfl, hc1, hc2⟩ := Sl.shape hv
 unfold maxLen at hc2
 obtain ⟨e1, c6, c7, c8, c9⟩ := info_parts JF
 have S := St.start hs
 go_enter Tryz.func25, Tryz.ntmps25
 refine sk fun e2 b0 => ?_
 refine dy ?_
 refine wn b0 ?_
 refine sk fun e3 b1 => ?_
 refine dy ?_
 refine wn b1 ?_
 refine aE fun e4 a5 => ?_
 refine aE fun e5 b2 => ?_
 have d0 := St.addNil S 4 AcC AcC.mono 33 w.heap.size
 refine aB ?_
 refine dy ?_
 simp only [pq]
 refine wlK b2 ?_
 refine aO ?_
 refine aX (fun mm aa d1 => ∃ (i : Nat) (ra : Option Addr) (rc : Nat) (a7 : Fz) (a8 : Nat → Value), mm = l.length - i ∧ a8 = eB aa ∧ aa = ⟨([(.slice a l.length c), (nI m), undef, undef, Zn, (.slice ra (aG l i).length rc), (nI i)] ++ (usF a8 7 21 [undef])).toArray, []⟩ ∧ St w F d1 a7 [] [cN 4 AcC AcC.mono 33 w.heap.size (.slice ra (aG l i).length rc) (aG l i)] ∧ Le F a7 ∧ (i ≤ l.length) ∧ (i ≤ m)) _ ⟨0, none, 0, F, _, rfl, rfl, rfl, d0, Le.refl _, (by omega), (by omega)⟩ ?_
 rintro e6 e7 e8 ⟨i, ra, rc, a7, a8, rfl, -, hfr, a0, a6, hi, him⟩ e9 b3
 simp only [uzF, Nat.reduceAdd] at hfr; subst hfr
 refine aE fun f0 b4 => ?_
 refine sk fun f1 a2 => ?_
 refine aC ?_
 by_cases f2 : i < l.length
 refine eQ ?_
 refine aC ?_
 by_cases f3 : i < m
 refine eQ ?_
 refine dp ?_
 refine wn a2 ?_
 refine aJ ?_
 refine aI ?_
 refine b4 _ _ ?_
 refine aE fun f4 b5 => ?_
 refine aO ?_
 refine aE fun f5 b6 => ?_
 obtain ⟨g, hz_g⟩ : ∃ g, l[i]? = some g := ⟨l[i]'(by omega), List.getElem?_eq_getElem (by omega)⟩
 obtain ⟨d2, d3, b7, d4, hz_g_b⟩ := Ges.get (hv.mono a6) hz_g
 refine aB ?_
 iterate 2 refine dx ?_
 refine dr (pP d2 (d3 + i * 5)) (bQ (i := i) (sz := 5) Tryz.underlying22 (VX _) rfl b7 rfl (by omega) rfl) ?_
 simp only [pq]
 refine dr _ (aD rfl (cX Tryz.underlying31 rfl (TT) (fun j v h => St.fz a0 (d4 j v h)))) ?_
 refine aR a0 rfl (fn1 (Hd _ _)) (Cl _ _ g (a0).sat ⟨hT.1.below a0.gr.below, hT.2.at a0.gr.below⟩ hz_g_b) ?_
 intro f6 f7 b9 d5 c0 d6
 obtain ⟨a3, a4, rfl, c1⟩ := d6
 refine sA d5 (xY _) fun f8 f9 d7 => ?_
 refine sW 0 d7 (fA) fun g0 c2 => ?_
 simp only [pq]
 refine wlK b6 ?_
 refine aB ?_
 refine dx ?_
 refine dR c2 0 Tryz.underlying33 (fA) ?_
 refine bG c2 (v := fun n => .slice (aA n 0) 1 1) rfl (cM (ps := #[(0, (.agg #[(.int .i64 (((kC g).kind : Nat) : Int)), (.int .i64 (((kC g).sess : Nat) : Int)), (.int .i64 (((kC g).keep : Nat) : Int)), (.slice a3 (kC g).data.length a4)]))]) (cells := #[(.int .i64 (((kC g).kind : Nat) : Int)), (.int .i64 (((kC g).sess : Nat) : Int)), (.int .i64 (((kC g).keep : Nat) : Int)), (.slice a3 (kC g).data.length a4)]) (E := 33) (cT rfl) (fun w => by kernel_rfl)) (fun g1 g2 c3 => ?_)
 refine eV (i := 0) (r := 0) (p := (kC g)) (cs := [(.int .i64 (((kC g).kind : Nat) : Int)), (.int .i64 (((kC g).sess : Nat) : Int)), (.int .i64 (((kC g).keep : Nat) : Int)), (.slice a3 (kC g).data.length a4)]) c3 rfl e1 (.agg #[(iI 0), (iI 0), (iI 0), Zn]) 48 Tryz.underlying23 c6 c7 c8 c9 rfl (by decide) rfl rfl rfl rfl rfl (AcC.oneCell (F := b9) (p := (kC g)) ⟨_, rfl, c1⟩) (⟨_, rfl, c1⟩) (Nat.le_refl _) c3.gr.below.size (by unfold maxLen; (have := aY l i; simp; omega)) (by (have := aY l i; simp; omega)) ?_
 intro g3 g4 a1 e0
 simp only [pq]
 have a1 := St.drop a1 (.cons _ (List.Sublist.refl _))
 obtain ⟨d8, a9, rfl, g5, d9⟩ := (a1.own (i := 0) rfl).shape
 unfold maxLen at d9
 refine dy ?_
 refine wlK b5 ?_
 refine aB ?_
 refine dx ?_
 refine cV (i + 1) ?_
 refine dy ?_
 simp only [pq]
 refine aH ?_
 have a1 := St.drop a1 (.cons _ (List.Sublist.refl _))
 rw [show ((aG l i) ++ [(kC g)]) = (aG l (i + 1)) from (LE hz_g)] at a1 ⊢
 exact b3 _ _ _ (by omega) ⟨(i + 1), d8, a9, b9, _, rfl, rfl, rfl, a1, (a6.trans c0), (by omega), (by omega)⟩
 refine eL ?_
 refine dp ?_
 refine wn a2 ?_
 refine aF ?_
 refine cU ?_
 refine a5 _ _ ?_
 refine sk fun g6 c4 => ?_
 refine aC ?_
 refine wn c4 ?_
 refine aN ?_
 try simp only [xt]
 refine bR (aZ rfl (gD rfl)) ?_
 have hend : aG l i = aG l m := by first | exact AR (by omega) him | exact congrArg _ (by omega)
 rw [← hend]
 exact ⟨_, _, rfl, a0.gr, St.own (i := 0) a0 rfl⟩
 refine eL ?_
 refine aC ?_
 refine wn a2 ?_
 refine aF ?_
 refine cU ?_
 refine a5 _ _ ?_
 refine sk fun g7 c5 => ?_
 refine aC ?_
 refine wn c5 ?_
 refine aN ?_
 try simp only [xt]
 refine bR (aZ rfl (gD rfl)) ?_
 have hend : aG l i = aG l m := by first | exact AR (by omega) him | exact congrArg _ (by omega)
 rw [← hend]
 exact ⟨_, _, rfl, a0.gr, St.own (i := 0) a0 rfl⟩
theorem sU (F : Fz) (w : World) (v u : Value) (l m : aV) (hs : Sat w F) (hv : Tns F v l) (hu : Tns F u m) (hl : l.length ≤ 1000000) (hL : ∀ t ∈ l, t.2.length ≤ 1000000) :
    Calls Tryz.prog 24 #[v, u] w (cR w (.bool (decide (l = m)))) := by
 obtain ⟨a, c, rfl, _⟩ := Sl.shape hv
 obtain ⟨a', c', rfl, _⟩ := Sl.shape hu
 have S := St.start hs
 go_enter Tryz.func24, Tryz.ntmps24
 refine sk fun K1 hK1 => ?_
 refine dy ?_
 refine wn hK1 ?_
 refine sk fun K2 hK2 => ?_
 refine aC ?_
 refine aK (v := (.bool (decide (l = m)))) S rfl (fn2 (Hc _ _)) (AX _ _ _ _ l m (S).sat hv hu hl hL) (fun w3 S4 => ?_)
 refine dy ?_
 refine wn hK2 ?_
 refine aN ?_
 try simp only [xt]
 refine bR (aZ rfl (gD rfl)) ?_
 exact ⟨rfl, S4.gr.below⟩
theorem Ip : xA := fun w0 F0 w F n g L _ s u r hM hT hg hv ok hq => XQ w0 F0 w F n g L s u r hM hT hg hv ok hq
theorem qE {l : List Ac} (ok : ∀ a ∈ l, pH a) (hl : l.length ≤ 149) : ScrOk l := ⟨ok, Nat.le_trans (XZ l) hl, by omega, fun _ _ _ => Ip, fun _ _ _ => Io⟩
theorem LG {l : List Ac} (h : ScrOk l) : EngOk (fG l) (dM l) ∧ EngB (dM l) := ⟨SU (by have := h.c; omega) h.ok, Jm (by have := h.c; omega) h.ok⟩
theorem pO {a b : List Ac} (ha : ∀ x ∈ a, pH x) (hb : ∀ x ∈ b, pH x) : ∀ x ∈ a ++ b, pH x := fun x hx => (List.mem_append.1 hx).elim (ha x) (hb x)
theorem VI {l : List Ac} (h : ScrOk l) : ForestOk 60 ((dM l).forest (dM l).synced) := by
 have ho := (LG h).1
 have hs := ho.sync
 rw [ho.state _ (by omega)]
 exact ho.ok _ (by omega)
end Go.Proofs.YtilgpdpooildcaaGreatDoor
