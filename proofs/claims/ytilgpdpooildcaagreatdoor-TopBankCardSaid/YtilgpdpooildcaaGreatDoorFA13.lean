/- Rules, plain laws and walks: S12 SV14 SV15 SV16 P25 P28 -/
import Derived.Test.YtilgpdpooildcaaGreatDoorFA2
import Derived.Test.YtilgpdpooildcaaGreatDoorFA5
import Derived.Test.YtilgpdpooildcaaGreatDoorFA3
import Derived.Test.YtilgpdpooildcaaGreatDoorFA12
namespace Go.Proofs.YtilgpdpooildcaaGreatDoor
set_option maxHeartbeats 8000000
open Go.RowKit
set_option linter.unusedVariables false
section
variable {w0 w w' : World} {F0 F F' F2 : Fz} {L L' : List Blk} {α : Type} {k E base : Nat} {R : Fz → List Value → α → Prop} {hR : ∀ F F' x p, Le F F' → R F x p → R F' x p} {v : Value} {l : List α}
theorem St.hold (S : St w0 F0 w F L [bV k R hR E base v l]) : ∃ F', St w0 F0 w F' L [] ∧ Le F F' ∧ Sl k R F' v l ∧ ∀ g, v.ownBlock = some g → F' g = w.heap[g]? := by
 have hm : bV k R hR E base v l ∈ [bV k R hR E base v l] := by simp
 have hown := S.own (i := 0) rfl
 obtain ⟨el, h1, h2, h3⟩ := hown.ex
 rcases h1.2 with ⟨hv, hn⟩ | ⟨g, cap, cur, hv, q2, q3, q4⟩
 have hl : l = [] := List.eq_nil_of_length_eq_zero hn
 subst hl
 subst hv
 exact ⟨F, ⟨S.gr, S.blk, by simp, S.bb, by simp, by simp⟩, Le.refl _, Sl.nil k R F, fun g h => by cases h⟩
 have hle : Le F (addF F w g) := fun b o hb => qG _ _ _ _ _ hb
 have hr0 := (S.row _ hm).2 g (by show v.ownBlock = _; rw [hv]; rfl)
 have hF : addF F w g g = some (.cells cur E (0, 0)) := by unfold addF; rw [hr0.2.1]; simp [q3]
 refine ⟨addF F w g, ⟨S.gr.add hr0.2.2, fun x hx => ?_, by simp, S.bb, by simp, by simp⟩, hle, ⟨el, ?_, h2.imp fun x p => hR _ _ x p hle, h3⟩, fun g' hg' => ?_⟩
 have := S.blk x hx
 have hne : x.n ≠ g := fun e => S.rb _ hm x hx (by show v.ownBlock = _; rw [hv, e]; rfl)
 exact ⟨this.1, by rw [pH hne]; exact this.2.1, this.2.2⟩
 subst hv
 refine Rw.of_cells q4.1 q4.2.1 fun j u hu => ?_
 rw [← q4.2.2.2, List.getElem?_take] at hu
 split at hu
 unfold bH; rw [hF, Nat.zero_add]; simpa using hu
 cases hu
 rw [hv] at hg'
 obtain rfl : g = g' := Option.some.inj hg'
 rw [hF, q3]
theorem St.thaw (S : St w0 F0 w F L [bV k R hR E base v l]) (hg : ∀ g, v.ownBlock = some g → F' g = w.heap[g]?) (S' : St w0 F0 w' F2 L' []) (hle : Le F F2) (hle2 : Le F' F2) : St w0 F0 w' F L' [bV k R hR E base v l] := by
 have hm : bV k R hR E base v l ∈ [bV k R hR E base v l] := by simp
 have hr := S.row _ hm
 have hh : ∀ g, v.ownBlock = some g → ∃ o, w.heap[g]? = some o ∧ F2 g = some o ∧ w'.heap[g]? = some o := by
  intro g hv
  have hlt := (hr.2 g hv).1
  have e1 : w.heap[g]? = some w.heap[g] := Array.getElem?_eq_getElem hlt
  have e2 : F' g = some w.heap[g] := by rw [hg g hv, e1]
  have e3 := hle2 g _ e2
  exact ⟨_, e1, e3, S'.sat g _ e3⟩
 refine ⟨⟨S'.gr.below, S.gr.old, fun b o hb => S'.sat b o (hle b o hb)⟩, fun x hx => ?_, fun r hr' => ?_, S'.bb, fun r hr' x hx => ?_, by simp⟩
 have := S'.blk x hx
 refine ⟨this.1, ?_, this.2.2⟩
 cases h : F x.n with
 | none => rfl
 | some o => have h2 := hle _ _ h; rw [this.2.1] at h2; cases h2
 obtain rfl : r = bV k R hR E base v l := by simpa using hr'
 refine ⟨(bV k R hR E base v l).stable w w' F F hr.1 (fun g hv => ?_) (Le.refl _) (fun g hv => (hr.2 g hv).2.1), fun g hv => ?_⟩
 obtain ⟨o, e1, _, e3⟩ := hh g hv
 rw [e1, e3]
 obtain ⟨o, _, _, e3⟩ := hh g hv
 exact ⟨(Array.getElem?_eq_some_iff.1 e3).1, (hr.2 g hv).2.1, (hr.2 g hv).2.2⟩
 obtain rfl : r = bV k R hR E base v l := by simpa using hr'
 intro e
 obtain ⟨o, _, e2, _⟩ := hh x.n e
 have := (S'.blk x hx).2.1
 rw [e2] at this; cases this
end
set_option maxRecDepth 100000
set_option linter.unusedSimpArgs false
theorem LL (n m : Int) (w : World) (h1 : -9223372036854775808 ≤ n) (h2 : n ≤ 9223372036854775807) (hm : 1 ≤ m) (hm2 : m ≤ 10000000) :
    Calls Tryz.prog 20 #[.int .i64 n, .int .i64 m] w (cY w (.int .i64 (pick n m))) := by
 have S := St.start (Sat.whole w)
 go_enter Tryz.func20, Tryz.ntmps20
 refine sk fun K1 hK1 => ?_
 refine dy ?_
 refine wn hK1 ?_
 refine sk fun K2 hK2 => ?_
 refine aC ?_
 refine aL (v := (.int .i64 (pick n m))) S rfl (fn2 (Cy _ _)) (fN (IF n m _ h1 h2 hm hm2)) (fun w3 S4 => ?_)
 refine dy ?_
 refine wn hK2 ?_
 refine aO ?_
 try simp only [xt]
 refine bR (bC rfl (gD rfl)) ?_
 exact ⟨rfl, S4.gr.below⟩
theorem Ek : vB := fun w0 F0 w F n g L _ k hM hT hg hm hk => SX w0 F0 w F n g L k hM hT hg hm hk
theorem fR (n : Int) (m : Nat) (w : World) (h1 : -9223372036854775808 ≤ n) (h2 : n ≤ 9223372036854775807) (hm : 1 ≤ m) (hm2 : m ≤ 10000000) :
    Calls Tryz.prog 20 #[.int .i64 n, .int .i64 ((m : Nat) : Int)] w (cY w (.int .i64 ((aD n m : Nat) : Int))) := by
 rw [← YB n hm]
 exact LL n m w h1 h2 (by omega) (by omega)
theorem ReqR.mono {F F' : Fz} {v : Value} {p : Nat × Rq} (h : ReqR F v p) (hl : Le F F') : ReqR F' v p := by
 obtain ⟨a, c, a1, c1, a2, c2, a3, c3, e, r, r1, r2, r3⟩ := h
 exact ⟨a, c, a1, c1, a2, c2, a3, c3, e, r.mono hl, r1.mono hl, r2.mono hl, r3.mono hl⟩
theorem ReqR.dropF {w : World} {F : Fz} {n : Nat} {cs : List Value} {T : TypeId} (hs : Sat w F) (hb : w.heap[n]? = some (.cells cs.toArray T (0, 0))) (hc : ∀ u ∈ cs, ∀ x, u ≠ bv x) {v : Value} {p : Nat × Rq} (h : ReqR F v p) : ReqR (Proofs.YtilgpdpooildcaaGreatDoor.dropF F n) v p := by
 obtain ⟨a, c, a1, c1, a2, c2, a3, c3, e, r, r1, r2, r3⟩ := h
 exact ⟨a, c, a1, c1, a2, c2, a3, c3, e, Bs.dropF hs hb hc r, Bs.dropF hs hb hc r1, Bs.dropF hs hb hc r2, Bs.dropF hs hb hc r3⟩
structure Scr (n : Nat) (a : List Rc) : Prop where
  ok : a.all rcB = true
  p : a.any rcP = false
  k : a.any rcK = false
  c : (a.map fun x => if rcC x then 1 else 0).sum ≤ n
  len : a.length ≤ 10 * n
theorem Scr.append {m n : Nat} {a b : List Rc} (h : Scr m a) (g : Scr n b) : Scr (m + n) (a ++ b) :=
  ⟨by rw [List.all_append, h.ok, g.ok]; rfl, by rw [List.any_append, h.p, g.p]; rfl, by rw [List.any_append, h.k, g.k]; rfl, by rw [List.map_append, List.sum_append]; have := h.c; have := g.c; omega, by rw [List.length_append]; have := h.len; have := g.len; omega⟩
theorem Scr.mono {m n : Nat} {a : List Rc} (h : Scr m a) (hn : m ≤ n) : Scr n a := ⟨h.ok, h.p, h.k, by have := h.c; omega, by have := h.len; omega⟩
theorem Scr.no {n : Nat} {a : List Rc} (h : Scr n a) (hn : n ≤ 149) : ScrOk (a.map Rc.ac) ∧ dW (a.map Rc.ac) = hH a := by
 refine Ei ?_
 have := h.c
 have := h.len
 rw [h.p, h.k]
 simp only [TC, h.ok, Bool.true_and, Bool.not_false, Bool.and_true, Bool.and_eq_true, decide_eq_true_eq]
 omega
def lE (v : Nat → UInt8) : aP := [([98], [([1], [v 1]), ([2], [v 2]), ([3], [v 3]), ([4], [v 4])])]
def HZ (v : Nat → UInt8) : Nat := (v 1).toNat + (v 2).toNat + (v 3).toNat + (v 4).toNat
def LM (f : aP) : Prop := ∃ v, f = lE v ∧ HZ v = 200
def bkK (n : Nat) : By := [bG ((n : Nat) : Int)]
def bkR (n : Nat) : Rd := ⟨[98], bkK n, false, []⟩
def bkW (n : Nat) (x : UInt8) : Wr := ⟨[98], bkK n, false, [x]⟩
structure Two (F T : Nat) : Prop where
  f1 : 1 ≤ F
  f4 : F ≤ 4
  t1 : 1 ≤ T
  t4 : T ≤ 4
  ne : F ≠ T
theorem Two.cases {F T : Nat} (h : Two F T) {p : Nat → Nat → Prop} (a0 : p 1 2) (a1 : p 1 3) (a2 : p 1 4) (a3 : p 2 1) (a4 : p 2 3) (a5 : p 2 4) (a6 : p 3 1) (a7 : p 3 2) (a8 : p 3 4) (a9 : p 4 1) (b0 : p 4 2) (b1 : p 4 3) : p F T := by
 obtain ⟨a, b, c, d, e⟩ := h
 rcases (by omega : F = 1 ∨ F = 2 ∨ F = 3 ∨ F = 4) with rfl | rfl | rfl | rfl <;> rcases (by omega : T = 1 ∨ T = 2 ∨ T = 3 ∨ T = 4) with rfl | rfl | rfl | rfl <;> first | assumption | exact absurd rfl e
theorem Fs {F : Nat} (h1 : 1 ≤ F) (h4 : F ≤ 4) : F = 1 ∨ F = 2 ∨ F = 3 ∨ F = 4 := by omega
theorem tD (v : Nat → UInt8) {F : Nat} (h1 : 1 ≤ F) (h4 : F ≤ 4) : jV (lE v) [98] (bkK F) = some [v F] := by
 rcases Fs h1 h4 with rfl | rfl | rfl | rfl <;> kernel_rfl
theorem CR (v : Nat → UInt8) {F : Nat} (h1 : 1 ≤ F) (h4 : F ≤ 4) (x : UInt8) : eH (lE v) (bkW F x) = some (lE (iJ v F x)) := by
 rcases Fs h1 h4 with rfl | rfl | rfl | rfl <;> kernel_rfl
theorem YC (v : Nat → UInt8) {F T : Nat} (h : Two F T) {x y : UInt8} (e : x.toNat + y.toNat = (v F).toNat + (v T).toNat) : HZ (iJ (iJ v F x) T y) = HZ v := by
 revert e
 refine Two.cases (p := fun F T => x.toNat + y.toNat = (v F).toNat + (v T).toNat → HZ (iJ (iJ v F x) T y) = HZ v) h ?_ ?_ ?_ ?_ ?_ ?_ ?_ ?_ ?_ ?_ ?_ ?_ <;> (intro e; simp [HZ, iJ]; omega)
theorem Bt (y : Int) (F : Nat) : gH ⟨y, [], []⟩ (bkR F) = some ⟨y, [bkR F], []⟩ := rfl
theorem Bu (y : Int) {F T : Nat} (h : Two F T) : gH ⟨y, [bkR F], []⟩ (bkR T) = some ⟨y, [bkR F, bkR T], []⟩ := by
 refine Two.cases (p := fun F T => gH ⟨y, [bkR F], []⟩ (bkR T) = some ⟨y, [bkR F, bkR T], []⟩) h ?_ ?_ ?_ ?_ ?_ ?_ ?_ ?_ ?_ ?_ ?_ ?_ <;> kernel_rfl
theorem Bv (y : Int) (rs : List Rd) (F : Nat) (x : UInt8) : fD ⟨y, rs, []⟩ (bkW F x) = some ⟨y, rs, [bkW F x]⟩ := rfl
theorem Bw (y : Int) (rs : List Rd) {F T : Nat} (h : Two F T) (x z : UInt8) : fD ⟨y, rs, [bkW F x]⟩ (bkW T z) = some ⟨y, rs, [bkW F x, bkW T z]⟩ := by
 refine Two.cases (p := fun F T => fD ⟨y, rs, [bkW F x]⟩ (bkW T z) = some ⟨y, rs, [bkW F x, bkW T z]⟩) h ?_ ?_ ?_ ?_ ?_ ?_ ?_ ?_ ?_ ?_ ?_ ?_ <;> kernel_rfl
theorem EngOk.rc {m : Nat} {g : Eng} (h : EngOk m g) (hm : m ≤ 1000) {a : Rc} (ha : rcB a = true) : EngOk (m + if rcC a then 1 else 0) (g.rc a) := by
 have hok := CO ha
 rw [← XS g hok, ← XU hok]
 exact h.act hm (QR hok)
structure Bank (m : Nat) (g : Eng) : Prop where
  ok : EngOk m g
  up : g.up = true
  one : 1 ≤ g.synced
  fo : ∀ k, 1 ≤ k → k ≤ g.commits.length → LM (g.forest k)
theorem Bank.mono {m n : Nat} {g : Eng} (h : Bank m g) (hn : m ≤ n) : Bank n g := ⟨h.ok.mono hn, h.up, h.one, h.fo⟩
theorem Bank.reply {m : Nat} {g : Eng} (h : Bank m g) (r : Rep) : Bank m (g.reply r) := ⟨h.ok.reply r, h.up, h.one, h.fo⟩
theorem Bank.le {m : Nat} {g : Eng} (h : Bank m g) : g.synced ≤ g.commits.length := by have := h.ok.sync; omega
theorem Bank.step {m : Nat} {g z : Eng} (h : Bank m g) (ok : EngOk m z) (h1 : z.up = g.up) (h2 : z.synced = g.synced) (h3 : z.commits = g.commits) (h4 : z.forests = g.forests) : Bank m z :=
  ⟨ok, by rw [h1]; exact h.up, by rw [h2]; exact h.one, fun k k1 k2 => by unfold Eng.forest; rw [h4]; rw [h3] at k2; exact h.fo k k1 k2⟩
theorem Bank.sync {m : Nat} {g : Eng} (h : Bank m g) : Bank m g.sync := by
 refine ⟨h.ok.syncs, ?_, ?_, ?_⟩ <;> rw [wZ h.up]
 exact h.up
 exact Nat.le_trans h.one (Nat.le_add_right _ _)
 exact fun k k1 k2 => h.fo k k1 k2
theorem Bank.crash {m : Nat} {g : Eng} (h : Bank m g) (k : Nat) : Bank m (g.crash k).start := by
 have hl := h.ok.left_le k
 have e := LB h.ok h.up k
 refine ⟨(h.ok.crashs k).starts, rfl, ?_, fun j h1 hj => ?_⟩
 rw [e]; exact Nat.le_trans h.one hl.1
 rw [e] at hj ⊢
 have hj : j ≤ (g.commits.take (g.left k)).length := hj
 rw [List.length_take] at hj
 show LM ((g.forests.take (g.left k + 1)).getD j [])
 rw [List.getD_eq_getElem?_getD, List.getElem?_take, if_pos (by omega), ← List.getD_eq_getElem?_getD]
 exact h.fo j h1 (by omega)
theorem Bank.commit {m : Nat} {g : Eng} (h : Bank m g) (hm : m ≤ 1000) {s : Nat} (hs : s < 8) {F T : Nat} (hFT : Two F T) {x z : UInt8} {v : Nat → UInt8} (hv : g.forest g.synced = lE v) (he : x.toNat + z.toNat = (v F).toNat + (v T).toNat)
    (ht : g.txn s = some ⟨(g.synced : Nat), [bkR F, bkR T], [bkW F x, bkW T z]⟩) : Bank (m + 1) (g.commit s ⟨(g.synced : Nat), [bkR F, bkR T], [bkW F x, bkW T z]⟩) := by
 have hok := h.ok.commit hm hs (h.ok.txns s _ ht)
 have hle := h.le
 suffices q : (g.commit s ⟨(g.synced : Nat), [bkR F, bkR T], [bkW F x, bkW T z]⟩).up = true ∧ 1 ≤ (g.commit s ⟨(g.synced : Nat), [bkR F, bkR T], [bkW F x, bkW T z]⟩).synced ∧ ∀ k, 1 ≤ k → k ≤ (g.commit s ⟨(g.synced : Nat), [bkR F, bkR T], [bkW F x, bkW T z]⟩).commits.length → LM ((g.commit s ⟨(g.synced : Nat), [bkR F, bkR T], [bkW F x, bkW T z]⟩).forest k) from ⟨hok, q.1, q.2.1, q.2.2⟩
 have same : ∀ z : Eng, z.up = g.up → z.synced = g.synced → z.commits = g.commits → z.forests = g.forests → z.up = true ∧ 1 ≤ z.synced ∧ ∀ k, 1 ≤ k → k ≤ z.commits.length → LM (z.forest k) := fun z h1 h2 h3 h4 =>
  ⟨by rw [h1]; exact h.up, by rw [h2]; exact h.one, fun k k1 k2 => by unfold Eng.forest; rw [h4]; rw [h3] at k2; exact h.fo k k1 k2⟩
 unfold Eng.commit
 rw [if_neg (by simp)]
 split
 exact same _ rfl rfl rfl rfl
 split
 exact same _ rfl rfl rfl rfl
 rename_i hq hc
 have hc : jR ((g.synced : Nat) : Int) [bkR F, bkR T] g.commits = false := by simpa using hc
 have r1 := EE h.ok.hist hc (r := bkR F) (by simp) rfl hle (Nat.le_refl _)
 have r2 := EE h.ok.hist hc (r := bkR T) (by simp) rfl hle (Nat.le_refl _)
 rw [← h.ok.state _ (Nat.le_refl _), ← h.ok.state _ hle, hv] at r1 r2
 obtain ⟨u, hu, hsum⟩ := h.fo g.commits.length (by have := h.one; omega) (Nat.le_refl _)
 have r1 : jV (g.forest g.commits.length) [98] (bkK F) = jV (lE v) [98] (bkK F) := r1
 have r2 : jV (g.forest g.commits.length) [98] (bkK T) = jV (lE v) [98] (bkK T) := r2
 rw [hu, tD u hFT.f1 hFT.f4, tD v hFT.f1 hFT.f4] at r1
 rw [hu, tD u hFT.t1 hFT.t4, tD v hFT.t1 hFT.t4] at r2
 have e1 : u F = v F := by injection r1 with r; injection r
 have e2 : u T = v T := by injection r2 with r; injection r
 have ha : gJ (g.forest g.commits.length) [bkW F x, bkW T z] = some (lE (iJ (iJ u F x) T z)) := by
  rw [hu]
  unfold gJ
  rw [CR u hFT.f1 hFT.f4]
  simp only
  rw [uR, CR _ hFT.t1 hFT.t4]
 rw [ha]
 have hst := h.ok.states
 refine ⟨h.up, h.one, fun k k1 k2 => ?_⟩
 have k2 : k ≤ (g.commits ++ [(⟨g.commits.length + 1, [bkW F x, bkW T z]⟩ : Cm)]).length := k2
 rw [List.length_append, List.length_singleton] at k2
 show LM ((g.forests ++ [lE (iJ (iJ u F x) T z)]).getD k [])
 by_cases c : k = g.commits.length + 1
 subst c
 rw [List.getD_eq_getElem?_getD, List.getElem?_append_right (by rw [hst]; exact Nat.le_refl _), hst]
 simp only [Nat.sub_self, List.getElem?_cons_zero, Option.getD_some]
 exact ⟨_, rfl, by rw [YC u hFT (by rw [e1, e2]; exact he)]; exact hsum⟩
 rw [List.getD_eq_getElem?_getD, List.getElem?_append_left (by rw [hst]; omega), ← List.getD_eq_getElem?_getD]
 exact h.fo k k1 (by omega)
-- requests
theorem AA {z : Eng} {s q : Nat} {r : Rq} (hq : q ≠ 8) (h1 : z.up = true) (h2 : z.waits s = true) : z.rc (.rq s q r) = z.reply (cX s 6) := by
 unfold Eng.rc
 simp only
 rw [if_pos h1]
 unfold Eng.req
 rw [if_neg hq, if_pos h2]
def Eng.bk0 (g : Eng) (s : Nat) : Eng := match g.txn s with
  | none => g.reply (cX s 6)
  | some _ => (g.setTxn s none).reply (cX s 0)
theorem LN {g : Eng} {s : Nat} (h1 : g.up = true) (h2 : g.waits s = false) : g.rc (.rq s 7 rq0) = g.bk0 s := by
 unfold Eng.rc
 simp only
 rw [if_pos h1]
 unfold Eng.req Eng.bk0
 rw [if_neg (by decide), h2, if_neg (by decide)]
 cases g.txn s with
 | none => simp only; rw [if_neg (by decide)]
 | some t => simp only; rw [if_neg (by decide), if_pos trivial]
theorem El (g : Eng) (s : Nat) : (g.bk0 s).up = g.up ∧ (g.bk0 s).synced = g.synced ∧ (g.bk0 s).commits = g.commits ∧ (g.bk0 s).forests = g.forests ∧ (g.bk0 s).waits = g.waits ∧ (g.bk0 s).txn s = none ∧ ∃ r, (g.bk0 s).replies = g.replies ++ [r] := by
 unfold Eng.bk0
 cases e : g.txn s with
 | none => exact ⟨rfl, rfl, rfl, rfl, rfl, e, _, rfl⟩
 | some t => exact ⟨rfl, rfl, rfl, rfl, rfl, dV _ _ _, _, rfl⟩
theorem YD {g : Eng} {s : Nat} (h1 : g.up = true) (h2 : g.waits s = false) (h3 : g.txn s = none) : g.rc (.rq s 1 rq0) = (g.setTxn s (some ⟨(g.synced : Nat), [], []⟩)).reply (mX s (g.synced : Nat)) := by
 unfold Eng.rc
 simp only
 rw [if_pos h1]
 unfold Eng.req
 rw [if_neg (by decide), h2, if_neg (by decide), h3]
 simp only
 rw [if_pos trivial]
def rO (s y : Nat) (x : UInt8) : Rep := ⟨s, 0, ((y : Nat) : Int), true, [x], [], [], gZ, gZ⟩
theorem YE {z : Eng} {s y F : Nat} {rs : List Rd} {t : Tx} {v : Nat → UInt8} (h1 : z.up = true) (h2 : z.waits s = false) (h3 : z.synced = y) (h4 : z.forest y = lE v) (h5 : z.txn s = some ⟨(y : Nat), rs, []⟩) (f1 : 1 ≤ F) (f4 : F ≤ 4) (hn : gH ⟨(y : Nat), rs, []⟩ (bkR F) = some t) :
    z.rc (.rq s 2 ⟨[98], bkK F, [], []⟩) = (z.setTxn s (some t)).reply (rO s y (v F)) := by
 unfold Eng.rc
 simp only
 rw [if_pos h1]
 unfold Eng.req
 rw [if_neg (by decide), h2, if_neg (by decide), h5]
 simp only
 rw [if_neg (by decide), if_neg (by decide), h3, if_pos (by unfold Eng.keptB; simp)]
 unfold Eng.work
 rw [if_pos rfl]
 unfold Eng.look
 simp only [Int.toNat_natCast, h4]
 have hl : cJ (lE v) ⟨(y : Nat), rs, []⟩ [98] (bkK F) = (jV (lE v) [98] (bkK F), false) := rfl
 rw [hl]
 simp only
 rw [if_neg (by decide), tD v f1 f4]
 unfold Eng.note
 have hn : gH ⟨(y : Nat), rs, []⟩ ⟨[98], bkK F, false, []⟩ = some t := hn
 rw [hn]
 rfl
theorem YF {z : Eng} {s y F : Nat} {rs : List Rd} {ws : List Wr} {t : Tx} {x : UInt8} (h1 : z.up = true) (h2 : z.waits s = false) (h3 : z.synced = y) (h5 : z.txn s = some ⟨(y : Nat), rs, ws⟩) (hn : fD ⟨(y : Nat), rs, ws⟩ (bkW F x) = some t) :
    z.rc (.rq s 4 ⟨[98], bkK F, [], [x]⟩) = (z.setTxn s (some t)).reply (cX s 0) := by
 unfold Eng.rc
 simp only
 rw [if_pos h1]
 unfold Eng.req
 rw [if_neg (by decide), h2, if_neg (by decide), h5]
 simp only
 rw [if_neg (by decide), if_neg (by decide), h3, if_pos (by unfold Eng.keptB; simp)]
 unfold Eng.work
 rw [if_neg (by decide), if_neg (by decide), if_neg (by decide)]
 unfold Eng.put
 have hn : fD ⟨(y : Nat), rs, ws⟩ ⟨[98], bkK F, 4 == 5, [x]⟩ = some t := hn
 rw [hn]
theorem TI {z : Eng} {s y : Nat} {rs : List Rd} {ws : List Wr} (h1 : z.up = true) (h2 : z.waits s = false) (h3 : z.synced = y) (h5 : z.txn s = some ⟨(y : Nat), rs, ws⟩) : z.rc (.rq s 6 rq0) = z.commit s ⟨(y : Nat), rs, ws⟩ := by
 unfold Eng.rc
 simp only
 rw [if_pos h1]
 unfold Eng.req
 rw [if_neg (by decide), h2, if_neg (by decide), h5]
 simp only
 rw [if_neg (by decide), if_neg (by decide), h3, if_pos (by unfold Eng.keptB; simp)]
 unfold Eng.work
 rw [if_neg (by decide), if_neg (by decide), if_pos rfl]
-- scripts
def kL : List Rc := [.rq 0 1 rq0, .rq 0 4 ⟨[98], [1], [], [50]⟩, .rq 0 4 ⟨[98], [2], [], [50]⟩, .rq 0 4 ⟨[98], [3], [], [50]⟩, .rq 0 4 ⟨[98], [4], [], [50]⟩, .rq 0 6 rq0, .sync]
def gN (s F T : Nat) : List Rc := [.rq s 7 rq0, .rq s 1 rq0, .rq s 2 ⟨[98], bkK F, [], []⟩, .rq s 2 ⟨[98], bkK T, [], []⟩]
def vF (s F T : Nat) (x z : UInt8) : List Rc := [.rq s 4 ⟨[98], bkK F, [], [x]⟩, .rq s 4 ⟨[98], bkK T, [], [z]⟩]
structure ScrC (n : Nat) (a : List Rc) : Prop where
  ok : a.all rcB = true
  p : a.any rcP = false
  c : (a.map fun x => if rcC x then 1 else 0).sum ≤ n
  len : a.length ≤ 10 * n
theorem ScrC.append {m n : Nat} {a b : List Rc} (h : ScrC m a) (g : ScrC n b) : ScrC (m + n) (a ++ b) :=
  ⟨by rw [List.all_append, h.ok, g.ok]; rfl, by rw [List.any_append, h.p, g.p]; rfl, by rw [List.map_append, List.sum_append]; have := h.c; have := g.c; omega, by rw [List.length_append]; have := h.len; have := g.len; omega⟩
theorem ScrC.no {n : Nat} {a : List Rc} (h : ScrC n a) (hn : n ≤ 149) : ScrOk (a.map Rc.ac) ∧ dW (a.map Rc.ac) = hH a := by
 have := h.c
 have := h.len
 refine ⟨XV ?_ (fun k => by rw [h.p] at k; cases k) (fun _ => Ek), QQ fun x hx => CO (List.all_eq_true.1 h.ok x hx)⟩
 simp only [TC, h.ok, Bool.true_and, Bool.and_eq_true, decide_eq_true_eq]
 omega
theorem vG {s k : Nat} {r : Rq} (hs : s < 8) (hk : 1 ≤ k ∧ k ≤ 8) (hw : rM k r.name.length r.key.length r.last.length r.value.length = 0) : rcB (.rq s k r) = true := by
 simp only [rcB, Bool.and_eq_true, decide_eq_true_eq, beq_iff_eq]
 exact ⟨⟨⟨hs, hk.1⟩, hk.2⟩, hw⟩
theorem YG {s : Nat} (hs : s < 8) (F T : Nat) : ScrC 1 (gN s F T) := by
 refine ⟨?_, rfl, Nat.le_of_ble_eq_true rfl, Nat.le_of_ble_eq_true rfl⟩
 simp only [gN, List.all_cons, List.all_nil, Bool.and_true, Bool.and_eq_true]
 exact ⟨vG hs (by decide) (by kernel_rfl), vG hs (by decide) (by kernel_rfl), vG hs (by decide) (by kernel_rfl), vG hs (by decide) (by kernel_rfl)⟩
theorem YH {s : Nat} (hs : s < 8) (F T : Nat) (x z : UInt8) (b : Bool) : ScrC 1 (vF s F T x z ++ if b = true then [.rq s 6 rq0] else []) := by
 cases b
 refine ⟨?_, rfl, Nat.le_of_ble_eq_true rfl, Nat.le_of_ble_eq_true rfl⟩
 simp only [vF, List.cons_append, List.nil_append, List.all_cons, List.all_nil, Bool.and_true, Bool.and_eq_true, Bool.false_eq_true, if_false]
 exact ⟨vG hs (by decide) (by kernel_rfl), vG hs (by decide) (by kernel_rfl)⟩
 refine ⟨?_, rfl, Nat.le_of_ble_eq_true rfl, Nat.le_of_ble_eq_true rfl⟩
 simp only [vF, List.cons_append, List.nil_append, List.all_cons, List.all_nil, Bool.and_true, Bool.and_eq_true, if_true]
 exact ⟨vG hs (by decide) (by kernel_rfl), vG hs (by decide) (by kernel_rfl), vG hs (by decide) (by kernel_rfl)⟩
structure BankS (n : Nat) (a : List Rc) : Prop where
  scr : ScrC n a
  bank : Bank n (hH a)
theorem xE (a b : List Rc) : hH (a ++ b) = b.foldl Eng.rc (hH a) := List.foldl_append
theorem BankS.nil : BankS 1 kL := by
 have s : ScrC 1 kL := ⟨by kernel_rfl, rfl, Nat.le_of_ble_eq_true rfl, Nat.le_of_ble_eq_true rfl⟩
 refine ⟨s, ?_⟩
 have h1 := OI (l := kL.map Rc.ac) (by have := (s.no (by decide)).1.c; omega) (s.no (by decide)).1.ok
 rw [(s.no (by decide)).2] at h1
 have hc : gM (kL.map Rc.ac) ≤ 1 := by rw [FI fun x hx => CO (List.all_eq_true.1 s.ok x hx)]; exact s.c
 have e : (hH kL).up = true ∧ (hH kL).synced = 1 ∧ (hH kL).commits.length = 1 ∧ (hH kL).forest 1 = lE (fun _ => 50) := ⟨by kernel_rfl, by kernel_rfl, by kernel_rfl, by kernel_rfl⟩
 refine ⟨h1.mono hc, e.1, by rw [e.2.1]; exact Nat.le_refl 1, fun k k1 k2 => ?_⟩
 rw [e.2.2.1] at k2
 obtain rfl : k = 1 := by omega
 exact ⟨_, e.2.2.2, rfl⟩
theorem BankS.sync {n : Nat} {a : List Rc} (h : BankS n a) : BankS (n + 1) (a ++ [.sync]) := by
 refine ⟨h.scr.append ⟨rfl, rfl, by decide, by decide⟩, ?_⟩
 rw [xE]
 exact h.bank.sync.mono (Nat.le_succ n)
theorem BankS.crash {n : Nat} {a : List Rc} (h : BankS n a) {k : Nat} (hk : k ≤ 100000) : BankS (n + 1) (a ++ [.crash k, .start]) := by
 refine ⟨h.scr.append ⟨?_, rfl, Nat.zero_le _, Nat.le_of_ble_eq_true rfl⟩, ?_⟩
 simp [rcB, hk]
 rw [xE]
 exact (h.bank.crash k).mono (Nat.le_succ n)
theorem BankS.ask {n : Nat} {a : List Rc} (h : BankS n a) (hn : n ≤ 900) {s : Nat} (hs : s < 8) {F T : Nat} (hFT : Two F T) : ∃ ra rb : Rep, BankS (n + 1) (a ++ gN s F T) ∧ 2 ≤ (hH (a ++ gN s F T)).replies.length ∧
    (hH (a ++ gN s F T)).replies[(hH (a ++ gN s F T)).replies.length - 2]? = some ra ∧ (hH (a ++ gN s F T)).replies[(hH (a ++ gN s F T)).replies.length - 1]? = some rb ∧
    (ra = cX s 6 ∨ ∃ (y : Nat) (x z : UInt8), ra = rO s y x ∧ rb = rO s y z ∧
      ∀ x' z' : UInt8, x'.toNat + z'.toNat = x.toNat + z.toNat → ∀ b : Bool, BankS (n + 2) (a ++ gN s F T ++ (vF s F T x' z' ++ if b = true then [.rq s 6 rq0] else []))) := by
 have two : ∀ (l : List Rep) (p q : Rep), 2 ≤ (l ++ [p] ++ [q]).length ∧ (l ++ [p] ++ [q])[(l ++ [p] ++ [q]).length - 2]? = some p ∧ (l ++ [p] ++ [q])[(l ++ [p] ++ [q]).length - 1]? = some q := by
  intro l p q
  refine ⟨by simp, ?_, ?_⟩
  rw [List.getElem?_append_left (by simp), List.getElem?_append_right (by simp)]; simp
  rw [List.getElem?_append_right (by simp)]; simp
 have hsc := h.scr.append (YG hs F T)
 have hb := h.bank
 have e0 : hH (a ++ gN s F T) = (((((hH a).rc (.rq s 7 rq0)).rc (.rq s 1 rq0)).rc (.rq s 2 ⟨[98], bkK F, [], []⟩))).rc (.rq s 2 ⟨[98], bkK T, [], []⟩) := by rw [xE]; rfl
 cases hw : (hH a).waits s with
 | true =>
  have e1 : hH (a ++ gN s F T) = ((((hH a).reply (cX s 6)).reply (cX s 6)).reply (cX s 6)).reply (cX s 6) := by
   have s1 := AA (z := hH a) (s := s) (q := 7) (r := rq0) (by decide) hb.up hw
   have s2 := AA (z := (hH a).reply (cX s 6)) (s := s) (q := 1) (r := rq0) (by decide) hb.up hw
   have s3 := AA (z := ((hH a).reply (cX s 6)).reply (cX s 6)) (s := s) (q := 2) (r := ⟨[98], bkK F, [], []⟩) (by decide) hb.up hw
   have s4 := AA (z := (((hH a).reply (cX s 6)).reply (cX s 6)).reply (cX s 6)) (s := s) (q := 2) (r := ⟨[98], bkK T, [], []⟩) (by decide) hb.up hw
   rw [e0, s1, s2, s3, s4]
  refine ⟨cX s 6, cX s 6, ⟨hsc, by rw [e1]; exact ((((hb.reply _).reply _).reply _).reply _).mono (Nat.le_succ n)⟩, ?_⟩
  rw [e1]
  obtain ⟨q1, q2, q3⟩ := two ((hH a).replies ++ [cX s 6] ++ [cX s 6]) (cX s 6) (cX s 6)
  exact ⟨q1, q2, q3, .inl rfl⟩
 | false =>
  obtain ⟨v, hv, hsum⟩ := hb.fo (hH a).synced hb.one hb.le
  obtain ⟨y1, y2, y3, y4, y5, y6, r0, y7⟩ := El (hH a) s
  have ok0 : EngOk n ((hH a).bk0 s) := by
   have := hb.ok.rc (by omega) (a := .rq s 7 rq0) (vG hs (by decide) (by kernel_rfl))
   rw [LN hb.up hw] at this
   exact this
  have e1 : ((hH a).rc (.rq s 7 rq0)) = (hH a).bk0 s := LN hb.up hw
  generalize hz : (hH a).bk0 s = z at *
  have zup : z.up = true := by rw [y1]; exact hb.up
  have zw : z.waits s = false := by rw [y5]; exact hw
  have zf : z.forest (hH a).synced = lE v := by rw [← hv]; unfold Eng.forest; rw [y4]
  generalize hy : (hH a).synced = y at *
  have e2 := YD zup zw y6
  rw [y2] at e2
  obtain ⟨z1, hz1⟩ : ∃ z1, (z.setTxn s (some ⟨(y : Nat), [], []⟩)).reply (mX s (y : Nat)) = z1 := ⟨_, rfl⟩
  have a1 : z1.up = true ∧ z1.waits s = false ∧ z1.synced = y ∧ z1.forest y = lE v ∧ z1.txn s = some ⟨(y : Nat), [], []⟩ := by
   rw [← hz1]; exact ⟨zup, zw, y2, zf, dV _ _ _⟩
  have e3 := YE a1.1 a1.2.1 a1.2.2.1 a1.2.2.2.1 a1.2.2.2.2 hFT.f1 hFT.f4 (Bt _ F)
  obtain ⟨z2, hz2⟩ : ∃ z2, (z1.setTxn s (some ⟨(y : Nat), [bkR F], []⟩)).reply (rO s y (v F)) = z2 := ⟨_, rfl⟩
  have a2 : z2.up = true ∧ z2.waits s = false ∧ z2.synced = y ∧ z2.forest y = lE v ∧ z2.txn s = some ⟨(y : Nat), [bkR F], []⟩ := by
   rw [← hz2]; exact ⟨a1.1, a1.2.1, a1.2.2.1, a1.2.2.2.1, dV _ _ _⟩
  have e4 := YE a2.1 a2.2.1 a2.2.2.1 a2.2.2.2.1 a2.2.2.2.2 hFT.t1 hFT.t4 (Bu _ hFT)
  have k1 := ok0.rc (by omega) (a := .rq s 1 rq0) (vG hs (by decide) (by kernel_rfl))
  rw [e2, hz1] at k1
  have k2 := EngOk.rc k1 (by simp [rcC]; omega) (a := .rq s 2 ⟨[98], bkK F, [], []⟩) (vG hs (by decide) (by kernel_rfl))
  rw [e3, hz2] at k2
  have k3 := EngOk.rc k2 (by simp [rcC]; omega) (a := .rq s 2 ⟨[98], bkK T, [], []⟩) (vG hs (by decide) (by kernel_rfl))
  rw [e4] at k3
  rw [e1, e2, hz1, e3, hz2, e4] at e0
  obtain ⟨g, hg⟩ : ∃ g, (z2.setTxn s (some ⟨(y : Nat), [bkR F, bkR T], []⟩)).reply (rO s y (v T)) = g := ⟨_, rfl⟩
  have b1 : z2.commits = (hH a).commits ∧ z2.forests = (hH a).forests ∧ z2.replies = (z.replies ++ [mX s (y : Nat)]) ++ [rO s y (v F)] := by
   rw [← hz2, ← hz1]; exact ⟨y3, y4, rfl⟩
  have g1 : g.up = true := by rw [← hg]; exact a2.1
  have g2 : g.waits s = false := by rw [← hg]; exact a2.2.1
  have g3 : g.synced = y := by rw [← hg]; exact a2.2.2.1
  have g4 : g.commits = (hH a).commits := by rw [← hg]; exact b1.1
  have g5 : g.forests = (hH a).forests := by rw [← hg]; exact b1.2.1
  have g6 : g.txn s = some ⟨(y : Nat), [bkR F, bkR T], []⟩ := by rw [← hg]; exact dV _ _ _
  have g7 : g.replies = (z.replies ++ [mX s (y : Nat)]) ++ [rO s y (v F)] ++ [rO s y (v T)] := by rw [← hg, ← b1.2.2]; rfl
  have gok : EngOk n g := by rw [← hg]; exact k3
  have gf : g.forest y = lE v := by unfold Eng.forest; rw [g5]; exact hv
  rw [hg] at e0
  have gb : Bank n g := hb.step gok (by rw [g1, hb.up]) (by rw [g3, hy]) g4 g5
  refine ⟨rO s y (v F), rO s y (v T), ⟨hsc, by rw [e0]; exact gb.mono (Nat.le_succ n)⟩, ?_⟩
  obtain ⟨q1, q2, q3⟩ := two (z.replies ++ [mX s (y : Nat)]) (rO s y (v F)) (rO s y (v T))
  rw [e0, g7]
  refine ⟨q1, q2, q3, .inr ⟨y, v F, v T, rfl, rfl, fun x' z' he b => ⟨hsc.append (YH hs F T x' z' b), ?_⟩⟩⟩
  rw [xE, e0]
  have p1 := YF (z := g) (s := s) (y := y) (F := F) (x := x') g1 g2 g3 g6 (Bv _ _ F x')
  have p2 := YF (z := (g.setTxn s (some ⟨(y : Nat), [bkR F, bkR T], [bkW F x']⟩)).reply (cX s 0)) (s := s) (y := y) (F := T) (x := z') g1 g2 g3 (dV _ _ _) (Bw _ _ hFT x' z')
  have j1 := gok.rc (by omega) (a := .rq s 4 ⟨[98], bkK F, [], [x']⟩) (vG hs (by decide) (by kernel_rfl))
  rw [p1] at j1
  have j2 := EngOk.rc j1 (by simp [rcC]; omega) (a := .rq s 4 ⟨[98], bkK T, [], [z']⟩) (vG hs (by decide) (by kernel_rfl))
  rw [p2] at j2
  obtain ⟨w, hw2⟩ : ∃ w, ((((g.setTxn s (some ⟨(y : Nat), [bkR F, bkR T], [bkW F x']⟩)).reply (cX s 0)).setTxn s (some ⟨(y : Nat), [bkR F, bkR T], [bkW F x', bkW T z']⟩)).reply (cX s 0)) = w := ⟨_, rfl⟩
  rw [hw2] at p2 j2
  have w1 : w.up = true := by rw [← hw2]; exact g1
  have w2 : w.waits s = false := by rw [← hw2]; exact g2
  have w3 : w.synced = y := by rw [← hw2]; exact g3
  have w6 : w.txn s = some ⟨(y : Nat), [bkR F, bkR T], [bkW F x', bkW T z']⟩ := by rw [← hw2]; exact dV _ _ _
  have wb : Bank n w := gb.step j2 (by rw [w1, g1]) (by rw [w3, g3]) (by rw [← hw2]; rfl) (by rw [← hw2]; rfl)
  have wf : w.forest y = lE v := by rw [← hw2]; exact gf
  rw [List.foldl_append]
  have ef : (vF s F T x' z').foldl Eng.rc g = w := by
   unfold vF
   rw [List.foldl_cons, List.foldl_cons, List.foldl_nil, p1, p2]
  rw [ef]
  cases b
  exact wb.mono (by omega)
  show Bank (n + 2) (w.rc (.rq s 6 rq0))
  rw [TI w1 w2 w3 w6]
  subst w3
  exact (wb.commit (by omega) hs hFT wf he w6).mono (by omega)
theorem ScrC.mono {m n : Nat} {a : List Rc} (h : ScrC m a) (hn : m ≤ n) : ScrC n a := ⟨h.ok, h.p, by have := h.c; omega, by have := h.len; omega⟩
theorem BankS.mono {m n : Nat} {a : List Rc} (h : BankS m a) (hn : m ≤ n) : BankS n a := ⟨h.scr.mono hn, h.bank.mono hn⟩
theorem jQ (X Y : List Rc) : X.map Rc.ac ++ Y.map Rc.ac = (X ++ Y).map Rc.ac := by simp
theorem TJ {i : Nat} (h : i < 4) : ((kL.take (1 + i)).map Rc.ac) ++ [Ac.ask 0 (cH 4 ⟨[98], [bG (((i + 1) : Nat) : Int)], [], [50]⟩)] = ((kL.take (1 + (i + 1))).map Rc.ac) := by
 rcases (by omega : i = 0 ∨ i = 1 ∨ i = 2 ∨ i = 3) with rfl | rfl | rfl | rfl <;> rfl
theorem YI (X : List Rc) (s F T : Nat) (x z : UInt8) : (X ++ (vF s F T x z ++ if false = true then [Rc.rq s 6 rq0] else [])).map Rc.ac ++ [Ac.ask s (cH 6 rq0)] = (X ++ (vF s F T x z ++ if true = true then [Rc.rq s 6 rq0] else [])).map Rc.ac := by
 simp [vF, Rc.ac]
def OP (v : Nat → UInt8) : Nat → Nat
  | 0 => 0
  | n + 1 => OP v n + (v (n + 1)).toNat
theorem TK (v : Nat → UInt8) : OP v 4 = HZ v := by
 show 0 + (v 1).toNat + (v 2).toNat + (v 3).toNat + (v 4).toNat = _
 unfold HZ; omega
theorem QS (v : Nat → UInt8) : ∀ n, OP v n ≤ 256 * n
  | 0 => Nat.le_refl 0
  | n + 1 => by
    have := QS v n
    have := (v (n + 1)).toNat_lt
    show OP v n + (v (n + 1)).toNat ≤ _
    omega
theorem Bz (v : Nat → UInt8) {j : Nat} (h : j < 4) : ∃ pr : Pr, ([([1], [v 1]), ([2], [v 2]), ([3], [v 3]), ([4], [v 4])] : List Pr)[j]? = some pr ∧ pr.2 = [v (j + 1)] := by
 rcases (by omega : j = 0 ∨ j = 1 ∨ j = 2 ∨ j = 3) with rfl | rfl | rfl | rfl <;> exact ⟨_, rfl, rfl⟩
theorem Ca {x z : UInt8} {m : Nat} (h1 : m < 9) (h2 : m ≤ x.toNat) (h3 : z.toNat + m < 256) : (x - bG ((m : Nat) : Int)).toNat + (z + bG ((m : Nat) : Int)).toNat = x.toNat + z.toNat := by
 have e : (bG ((m : Nat) : Int)).toNat = m := vE (by omega)
 have hx := x.toNat_lt
 rw [UInt8.toNat_sub, UInt8.toNat_add, e]
 omega
section
variable {P : Program} {ρ : Operand → Value} {w : World} {d : Option Tmp} {t : TypeId} {pos : String} {after : Array Edge} {guard : Option (Nat × Bool)} {X Y : TypeId} {x y : Operand}
theorem Cb {a b : UInt8} (hx : ρ x = bv a) (hy : ρ y = bv b) : (execOp ρ ⟨d, .binOp .sub X x y Y, t, pos, after, guard⟩).run P w = .ok (.value (bv (a - b))) w := by
 refine iW hx hy ?_
 show (binOp .sub X (.int .u8 (a.toNat : Int)) (.int .u8 (b.toNat : Int))).run P w = _
 rw [dP _ (by simp)]
 have ha := a.toNat_lt; have hb := b.toNat_lt
 have e : (IntKind.wrap .u8 ((a.toNat : Int) - (b.toNat : Int))) = ((a - b).toNat : Int) := by
  show ((a.toNat : Int) - (b.toNat : Int)) % 256 = _
  rw [UInt8.toNat_sub]; omega
 show Result.ok (Value.int .u8 (IntKind.wrap .u8 ((a.toNat : Int) - (b.toNat : Int)))) w = _
 rw [e]; rfl
theorem Cc {a b : UInt8} (hx : ρ x = bv a) (hy : ρ y = bv b) : (execOp ρ ⟨d, .binOp .add X x y Y, t, pos, after, guard⟩).run P w = .ok (.value (bv (a + b))) w := by
 refine iW hx hy ?_
 show (binOp .add X (.int .u8 (a.toNat : Int)) (.int .u8 (b.toNat : Int))).run P w = _
 rw [dP _ (by simp)]
 have ha := a.toNat_lt; have hb := b.toNat_lt
 have e : (IntKind.wrap .u8 ((a.toNat : Int) + (b.toNat : Int))) = ((a + b).toNat : Int) := by
  show ((a.toNat : Int) + (b.toNat : Int)) % 256 = _
  rw [UInt8.toNat_add]; omega
 show Result.ok (Value.int .u8 (IntKind.wrap .u8 ((a.toNat : Int) + (b.toNat : Int)))) w = _
 rw [e]; rfl
end
theorem BankS.end {n : Nat} {a : List Rc} (h : BankS n a) : ∃ v, (hH a).forest (hH a).synced = lE v ∧ HZ v = 200 := h.bank.fo _ h.bank.one h.bank.le
end Go.Proofs.YtilgpdpooildcaaGreatDoor
