/- Rules, plain laws and walks: S1 FW FX MN S2 S3 -/
import Derived.Test.YtilgpdpooildcaaGreatDoorFA1
import Derived.Deep.AppendLies
import Derived.Deep.MidRow
import Derived.Maps.AppendAt
namespace Go.Proofs.YtilgpdpooildcaaGreatDoor
set_option maxHeartbeats 8000000
open Go.RowKit

theorem Gr.grown {w w1 w2 : World} {F F1 : Fz} {row : Option Nat} (h : Gr w F w1 F1) (hg : w1.grownBy w2 row) (hr : ∀ g, row = some g → w.heap.size ≤ g ∧ F1 g = none) : Gr w F w2 F1 :=
  ⟨h.below.grown hg h.below.size (fun k hk => (hr k hk).1), h.old, h.sat.grown hg (fun k hk => (hr k hk).2)⟩
theorem Gr.none {w w' : World} {F F' : Fz} (h : Gr w F w' F') {g : Nat} (hg : g < w.heap.size) (hn : F g = none) : F' g = none := by rw [h.old g hg]; exact hn
structure Own {α : Type} (k : Nat) (R : Fz → List Value → α → Prop) (E base : Nat) (w : World) (F : Fz) (v : Value) (l : List α) : Prop where
  ex : ∃ el : List (List Value), w.ownsRow base E k v l.length el.flatten ∧ AllR (R F) el l ∧ ∀ x ∈ el, x.length = k
  out : ∀ g, v.ownBlock = some g → F g = none
section
variable {α : Type} {k E base : Nat} {R : Fz → List Value → α → Prop} {w w' : World} {F F' : Fz} {v : Value} {l : List α}
theorem Own.nil (w : World) (F : Fz) : Own k R E base w F (.slice none 0 0) [] := ⟨⟨[], World.ownsRow_nil w base E k, trivial, by simp⟩, fun g h => by cases h⟩
theorem Own.lt (h : Own k R E base w F v l) : ∀ g, v.ownBlock = some g → base ≤ g ∧ g < w.heap.size := by
 obtain ⟨el, h1, _⟩ := h.ex
 exact h1.lt
theorem Own.shape (h : Own k R E base w F v l) : ∃ a c, v = .slice a l.length c ∧ l.length ≤ c ∧ c ≤ maxLen := by
 obtain ⟨el, ⟨_, h2⟩, _⟩ := h.ex
 rcases h2 with ⟨rfl, h0⟩ | ⟨g, cap, cur, rfl, _, _, h3, h4, _⟩
 ·exact ⟨none, 0, by rw [h0], by omega, Nat.zero_le _⟩
 ·exact ⟨_, cap, rfl, h3, h4⟩
theorem Own.mono (hR : ∀ F F' x p, Le F F' → R F x p → R F' x p) (h : Own k R E base w F v l) (hl : Le F F') (ho : ∀ g, v.ownBlock = some g → F' g = none) : Own k R E base w F' v l := by
 obtain ⟨el, h1, h2, h3⟩ := h.ex
 exact ⟨⟨el, h1, h2.imp fun x p => hR _ _ x p hl, h3⟩, ho⟩
theorem Own.gr (hR : ∀ F F' x p, Le F F' → R F x p → R F' x p) (h : Own k R E base w F v l) (hs : Sat w F) (g : Gr w F w' F') : Own k R E base w' F' v l := by
 obtain ⟨el, h1, h2, h3⟩ := h.ex
 have hlt := h1.lt
 refine ⟨⟨el, ?_, h2.imp fun x p => hR _ _ x p (g.le hs), h3⟩, fun b hb => g.none (hlt b hb).2 (h.out b hb)⟩
 obtain ⟨e1, e2⟩ := h1
 refine ⟨e1, e2.imp id ?_⟩
 rintro ⟨b, cap, cur, q1, q2, q3, q4⟩
 subst q1
 exact ⟨b, cap, cur, rfl, q2, (g.below.block b (hlt b rfl).2).trans q3, q4⟩
theorem Own.alloc (h : Own k R E base w F v l) (o : Obj) : Own k R E base (w.alloc o) F v l := by
 obtain ⟨el, h1, h2, h3⟩ := h.ex
 exact ⟨⟨el, h1.alloc o, h2, h3⟩, h.out⟩
theorem Own.drew (h : Own k R E base w F v l) : Own k R E base w.drew F v l := ⟨h.ex, h.out⟩
theorem Own.set (h : Own k R E base w F v l) (a : Addr) (u : Value) (ha : v.ownBlock ≠ some a.block) : Own k R E base (w.setCell a u) F v l := by
 obtain ⟨el, ⟨e1, e2⟩, h2, h3⟩ := h.ex
 refine ⟨⟨el, ⟨e1, e2.imp id ?_⟩, h2, h3⟩, h.out⟩
 rintro ⟨b, cap, cur, q1, q2, q3, q4⟩
 subst q1
 exact ⟨b, cap, cur, rfl, q2, CT q3 (fun e => ha (by rw [e]; rfl)) u, q4⟩
theorem Own.rebase {base' : Nat} (h : Own k R E base w F v l) (hb : ∀ g, v.ownBlock = some g → base' ≤ g) : Own k R E base' w F v l := by
 obtain ⟨el, ⟨e1, e2⟩, h2, h3⟩ := h.ex
 refine ⟨⟨el, ⟨e1, e2.imp id ?_⟩, h2, h3⟩, h.out⟩
 rintro ⟨b, cap, cur, q1, q2, q3, q4⟩
 subst q1
 exact ⟨b, cap, cur, rfl, hb b rfl, q3, q4⟩
theorem AR {xs : List Value} {n : Nat} (h : w.ownsRow base E k v n xs) (hs : Sat w F) : ∃ g, Rw (addF F w g) v n xs ∧ (base ≤ g ∨ addF F w g = F) := by
 obtain ⟨g, q1, q2⟩ := Rw.of_owns h hs
 rcases q2 with rfl | q2
 ·obtain ⟨e1, ⟨_, e2⟩ | ⟨_, _, _, e2, _⟩⟩ := h
  ·subst e2
   have : xs = [] := List.eq_nil_of_length_eq_zero (by simpa using e1)
   subst this
   refine ⟨w.heap.size, Rw.nil _, .inr ?_⟩
   funext b
   unfold addF
   cases hb : F b with
   | none =>
    simp only []
    split
    ·rename_i e; subst e; simp
    ·rfl
   | some o => rfl
  ·cases e2
 ·exact ⟨g, q1, .inl q2⟩
theorem Own.freeze (hR : ∀ F F' x p, Le F F' → R F x p → R F' x p) {w0 : World} {F0 : Fz} (h : Own k R E base w F v l) (g : Gr w0 F0 w F) (hb : w0.heap.size ≤ base) : ∃ F', Gr w0 F0 w F' ∧ Le F F' ∧ Sl k R F' v l := by
 obtain ⟨el, h1, h2, h3⟩ := h.ex
 obtain ⟨b, q1, q2⟩ := AR h1 g.sat
 have hle : Le F (addF F w b) := fun b' o hb' => qG _ _ _ _ _ hb'
 refine ⟨_, ?_, hle, el, q1, h2.imp fun x p => hR _ _ x p hle, h3⟩
 rcases q2 with q2 | q2
 ·exact g.add (Nat.le_trans hb q2)
 ·rw [q2]; exact g
theorem Own.peek (hR : ∀ F F' x p, Le F F' → R F x p → R F' x p) (h : Own k R E base w F v l) (hs : Sat w F) : ∃ F', Sat w F' ∧ Le F F' ∧ Sl k R F' v l := by
 obtain ⟨el, h1, h2, h3⟩ := h.ex
 obtain ⟨b, q1, q2⟩ := AR h1 hs
 have hle : Le F (addF F w b) := fun b' o hb' => qG _ _ _ _ _ hb'
 exact ⟨_, hs.addF b, hle, el, q1, h2.imp fun x p => hR _ _ x p hle, h3⟩
end
def PrC (F : Fz) (cs : List Value) (p : List UInt8 × List UInt8) : Prop := ∃ a b, cs = [a, b] ∧ Bs F a p.1 ∧ Bs F b p.2
theorem PrC.mono (F F' : Fz) (x : List Value) (p : List UInt8 × List UInt8) (hl : Le F F') (h : PrC F x p) : PrC F' x p := by
 obtain ⟨a, b, h1, h2, h3⟩ := h
 exact ⟨a, b, h1, h2.mono hl, h3.mono hl⟩
abbrev Prs (F : Fz) (v : Value) (l : List (List UInt8 × List UInt8)) : Prop := Sl 2 PrC F v l
theorem Bs.oneCell {F : Fz} {v : Value} {l : List UInt8} (h : Bs F v l) : v.oneCell' = true := by
 obtain ⟨a, c, rfl, _⟩ := h.shape; rfl
theorem PrC.oneCell {F : Fz} {cs : List Value} {p : List UInt8 × List UInt8} (h : PrC F cs p) : ∀ u ∈ cs, u.oneCell' = true := by
 obtain ⟨a, b, rfl, h2, h3⟩ := h
 intro u hu
 rcases List.mem_cons.1 hu with rfl | hu
 ·exact h2.oneCell
 ·rw [List.mem_singleton.1 hu]; exact h3.oneCell
theorem Prs.at {F : Fz} {a : Option Addr} {n c : Nat} {l : List (List UInt8 × List UInt8)} (h : Prs F (.slice a n c) l) (hn : 0 < n) :
    ∃ b o, a = some ⟨b, o, none⟩ ∧ ∀ (i : Nat) (hi : i < l.length), ∃ x y, bH F b (o + i * 2) = some x ∧ bH F b (o + i * 2 + 1) = some y ∧ Bs F x l[i].1 ∧ Bs F y l[i].2 := by
 obtain ⟨b, o, e, h1⟩ := Sl.at h (by omega) hn
 refine ⟨b, o, e, fun i hi => ?_⟩
 obtain ⟨cs, q1, ⟨x, y, rfl, q2, q3⟩, q4⟩ := h1 i hi
 refine ⟨x, y, ?_, ?_, q2, q3⟩
 ·have := q4 0 (by simp); simpa using this
 ·have := q4 1 (by simp); simpa [Nat.add_assoc] using this
theorem Sl.len {α : Type} {k : Nat} {R : Fz → List Value → α → Prop} {F : Fz} {a : Option Addr} {n c : Nat} {l : List α} (h : Sl k R F (.slice a n c) l) : n = l.length := by
 obtain ⟨a', c', h1, _⟩ := h.shape
 cases h1; rfl
set_option linter.unusedVariables false

structure Blk where
  n : Nat
  c : List Value
  t : TypeId
structure RowP where
  ob : Option Nat
  holds : World → Fz → Prop
  stable : ∀ w w' F F', holds w F → (∀ g, ob = some g → w'.heap[g]? = w.heap[g]?) → Le F F' → (∀ g, ob = some g → F' g = none) → holds w' F'
structure St (w0 : World) (F0 : Fz) (w : World) (F : Fz) (L : List Blk) (M : List RowP) : Prop where
  gr : Gr w0 F0 w F
  blk : ∀ x ∈ L, w.heap[x.n]? = some (.cells x.c.toArray x.t (0, 0)) ∧ F x.n = none ∧ w0.heap.size ≤ x.n
  row : ∀ r ∈ M, r.holds w F ∧ ∀ g, r.ob = some g → g < w.heap.size ∧ F g = none ∧ w0.heap.size ≤ g
  bb : L.Pairwise fun x y => x.n ≠ y.n
  rb : ∀ r ∈ M, ∀ x ∈ L, r.ob ≠ some x.n
  rr : M.Pairwise fun r s => ∀ g, r.ob = some g → s.ob ≠ some g
section
variable {w0 w w' : World} {F0 F F' : Fz} {L : List Blk} {M : List RowP}
theorem St.sat (S : St w0 F0 w F L M) : Sat w F := S.gr.sat
theorem St.start (hs : Sat w F) : St w F w F [] [] := ⟨Gr.refl hs, by simp, by simp, by simp, by simp, by simp⟩
theorem St.blk_lt (S : St w0 F0 w F L M) {x : Blk} (h : x ∈ L) : x.n < w.heap.size := (Array.getElem?_eq_some_iff.1 (S.blk x h).1).1
theorem St.mem {i : Nat} {x : Blk} (h : L[i]? = some x) : x ∈ L := by obtain ⟨h1, rfl⟩ := List.getElem?_eq_some_iff.1 h; exact List.getElem_mem h1
theorem St.cell (S : St w0 F0 w F L M) {i : Nat} {n : Nat} {c : List Value} {t : TypeId} (h : L[i]? = some ⟨n, c, t⟩) {j : Nat} {v : Value} (hv : c[j]? = some v) : w.cell? ⟨n, j, none⟩ = some v := by
 have := (S.blk _ (St.mem h)).1
 simp only at this
 simp [World.cell?, this, hv]
theorem St.range (S : St w0 F0 w F L M) {i : Nat} {n : Nat} {c : List Value} {t : TypeId} (h : L[i]? = some ⟨n, c, t⟩) (j : Nat) (cs : List Value) (hv : ∀ (k : Nat) v, cs[k]? = some v → c[j + k]? = some v) : w.rangeAt n j cs := fun k v hk => S.cell h (hv k v hk)
theorem St.fz (S : St w0 F0 w F L M) {b o : Nat} {v : Value} (h : bH F b o = some v) : w.cell? ⟨b, o, none⟩ = some v := S.sat.cell h
theorem St.gives (S : St w0 F0 w F L M) (g : Gr w F w' F') : St w0 F0 w' F' L M :=
  ⟨S.gr.trans g, fun x hx => ⟨(g.below.block _ (S.blk_lt hx)).trans (S.blk x hx).1, g.none (S.blk_lt hx) (S.blk x hx).2.1, (S.blk x hx).2.2⟩,
    fun r hr => ⟨r.stable _ _ _ _ (S.row r hr).1 (fun b hb => g.below.block _ ((S.row r hr).2 b hb).1) (g.le S.sat) (fun b hb => g.none ((S.row r hr).2 b hb).1 ((S.row r hr).2 b hb).2.1),
      fun b hb => ⟨Nat.lt_of_lt_of_le ((S.row r hr).2 b hb).1 g.below.size, g.none ((S.row r hr).2 b hb).1 ((S.row r hr).2 b hb).2.1, ((S.row r hr).2 b hb).2.2⟩⟩, S.bb, S.rb, S.rr⟩
theorem St.tells (S : St w0 F0 w F L M) (h : Below w.heap.size w w') : St w0 F0 w' F L M := S.gives (Gr.of_below S.sat h)
theorem St.alloc (S : St w0 F0 w F L M) (cs : Array Value) (T : TypeId) : St w0 F0 (w.alloc (.cells cs T)) F (⟨w.heap.size, cs.toList, T⟩ :: L) M := by
 have S' := S.gives ((Gr.refl S.sat).new (.cells cs T))
 refine ⟨S'.gr, fun x hx => ?_, S'.row, ?_, fun r hr x hx => ?_, S.rr⟩
 ·rcases List.mem_cons.1 hx with rfl | hx
  ·exact ⟨IC w _ rfl, S.sat.out (Nat.le_refl _), S.gr.below.size⟩
  ·exact S'.blk x hx
 ·refine List.pairwise_cons.2 ⟨fun y hy => ?_, S.bb⟩
  have := S.blk_lt hy
  simp only
  omega
 ·rcases List.mem_cons.1 hx with rfl | hx
  ·intro e
   have := ((S.row r hr).2 _ e).1
   simp at this
  ·exact S.rb r hr x hx
def bQ (c : List Value) (j : Nat) (vs : List Value) : List Value := c.take j ++ vs ++ c.drop (j + vs.length)
theorem bZ {c vs : List Value} {j : Nat} (h : j + vs.length ≤ c.length) : (bQ c j vs).length = c.length := by unfold bQ; simp; omega
theorem mA {n : Nat} {T : TypeId} {fr : Nat × Nat} : ∀ (vs : List Value) (j : Nat) (w : World) (c : List Value), w.heap[n]? = some (.cells c.toArray T fr) → j + vs.length ≤ c.length → (w.setCells n j vs).heap[n]? = some (.cells (bQ c j vs).toArray T fr)
  | [], j, w, c, h, _ => by simp [World.setCells, bQ, h]
  | v :: vs, j, w, c, h, hl => by
    simp only [List.length_cons] at hl
    have h1 : (w.setCell ⟨n, j, none⟩ v).heap[n]? = some (.cells (c.set j v).toArray T fr) := by
      rw [ID h]; simp
    have h2 := mA vs (j + 1) (w.setCell ⟨n, j, none⟩ v) (c.set j v) h1 (by simp; omega)
    simp only [World.setCells]
    rw [h2]
    have e : bQ (c.set j v) (j + 1) vs = bQ c j (v :: vs) := ?_
    · rw [e]
    unfold bQ
    apply List.ext_getElem?
    intro m
    simp only [List.getElem?_append, List.getElem?_take, List.length_take, List.length_set, List.length_append, List.getElem?_drop, List.length_cons, List.getElem?_set, List.getElem?_cons]
    grind
theorem fV {n : Nat} : ∀ (vs : List Value) (j : Nat) (w : World) {b : Nat}, b ≠ n → (w.setCells n j vs).heap[b]? = w.heap[b]?
  | [], _, _, _, _ => rfl
  | v :: vs, j, w, b, h => by
    simp only [World.setCells]
    rw [fV vs (j + 1) _ h]
    exact Below.heap_setCell w _ v b h
theorem kV {B n : Nat} (hB : B ≤ n) : ∀ (vs : List Value) (j : Nat) (a w : World), Below B a w → Below B a (w.setCells n j vs)
  | [], _, _, _, h => h
  | v :: vs, j, a, w, h => kV hB vs (j + 1) a _ (h.setCell hB v)
theorem uD {n : Nat} : ∀ (vs : List Value) (j : Nat) (w : World), (w.setCells n j vs).heap.size = w.heap.size
  | [], _, _ => rfl
  | v :: vs, j, w => by simp only [World.setCells]; rw [uD vs]; simp
theorem vT {n : Nat} (hn : F n = none) : ∀ (vs : List Value) (j : Nat) (w : World), Sat w F → Sat (w.setCells n j vs) F
  | [], _, _, h => h
  | v :: vs, j, w, h => vT hn vs (j + 1) _ (h.setCell hn v)
theorem St.store (S : St w0 F0 w F L M) {i n : Nat} {c : List Value} {t : TypeId} (h : L[i]? = some ⟨n, c, t⟩) (j : Nat) (vs : List Value) (hl : j + vs.length ≤ c.length) : St w0 F0 (w.setCells n j vs) F (L.set i ⟨n, bQ c j vs, t⟩) M := by
 obtain ⟨hi, he⟩ := List.getElem?_eq_some_iff.1 h
 obtain ⟨b1, b2, b3⟩ := S.blk _ (St.mem h)
 simp only at b1 b2 b3
 have hne : ∀ k (hk : k < L.length), k ≠ i → L[k].n ≠ n := by
  intro k hk hki
  have hp := List.pairwise_iff_getElem.1 S.bb
  rcases Nat.lt_or_gt_of_ne hki with h1 | h1
  ·have := hp k i hk hi h1; rw [he] at this; exact this
  ·have := hp i k hi hk h1; rw [he] at this; exact this.symm
 refine ⟨⟨kV b3 vs j _ _ S.gr.below, S.gr.old, vT b2 vs j w S.sat⟩, fun x hx => ?_, fun r hr => ?_, ?_, fun r hr x hx => ?_, S.rr⟩
 ·obtain ⟨k, hk, rfl⟩ := List.mem_iff_getElem.1 hx
  rw [List.getElem_set]
  split
  ·exact ⟨mA vs j w c b1 hl, b2, b3⟩
  ·rename_i hki
   have hk' : k < L.length := by simpa using hk
   have := S.blk _ (List.getElem_mem hk')
   exact ⟨(fV vs j w (hne k hk' (fun e => hki e.symm))).trans this.1, this.2⟩
 ·have hr1 := S.row r hr
  have hn : ∀ g, r.ob = some g → g ≠ n := fun g hg e => S.rb r hr _ (St.mem h) (by rw [hg, e])
  exact ⟨r.stable _ _ _ _ hr1.1 (fun g hg => fV vs j w (hn g hg)) (Le.refl _) (fun g hg => (hr1.2 g hg).2.1), fun g hg => ⟨by rw [uD]; exact (hr1.2 g hg).1, (hr1.2 g hg).2⟩⟩
 ·refine List.pairwise_iff_getElem.2 fun k m hk hm hkm => ?_
  have hk' : k < L.length := by simpa using hk
  have hm' : m < L.length := by simpa using hm
  have hp := List.pairwise_iff_getElem.1 S.bb k m hk' hm' hkm
  rw [List.getElem_set, List.getElem_set]
  split
  ·split
   ·omega
   ·exact (hne m hm' (by omega)).symm
  ·split
   ·exact hne k hk' (by omega)
   ·exact hp
 ·obtain ⟨k, hk, rfl⟩ := List.mem_iff_getElem.1 hx
  have hk' : k < L.length := by simpa using hk
  rw [List.getElem_set]
  split
  ·exact S.rb r hr ⟨n, c, t⟩ (St.mem h)
  ·exact S.rb r hr _ (List.getElem_mem hk')
theorem St.there (S : St w0 F0 w F L M) {i n : Nat} {c : List Value} {t : TypeId} (h : L[i]? = some ⟨n, c, t⟩) (j k : Nat) (hl : j + k ≤ c.length) : w.there n j k := fun m hm => by
  have := (S.blk _ (St.mem h)).1
  simp only at this
  have hm' : j + m < c.length := by omega
  exact ⟨by simp [World.cell?, this, hm'], by simp [World.frozen?, this]⟩
theorem St.drop (S : St w0 F0 w F L M) {L' : List Blk} (h : L'.Sublist L) : St w0 F0 w F L' M := ⟨S.gr, fun x hx => S.blk x (h.subset hx), S.row, S.bb.sublist h, fun r hr x hx => S.rb r hr x (h.subset hx), S.rr⟩
theorem St.dropRow (S : St w0 F0 w F L M) {M' : List RowP} (h : M'.Sublist M) : St w0 F0 w F L M' := ⟨S.gr, S.blk, fun x hx => S.row x (h.subset hx), S.bb, fun r hr => S.rb r (h.subset hr), S.rr.sublist h⟩
theorem St.freezeBlk (S : St w0 F0 w F L M) {i n : Nat} {c : List Value} {t : TypeId} (h : L[i]? = some ⟨n, c, t⟩) : St w0 F0 w (addF F w n) (L.eraseIdx i) M ∧ Le F (addF F w n) ∧ ∀ j v, c[j]? = some v → bH (addF F w n) n j = some v := by
 obtain ⟨hi, he⟩ := List.getElem?_eq_some_iff.1 h
 obtain ⟨b1, b2, b3⟩ := S.blk _ (St.mem h)
 simp only at b1 b2 b3
 have hsub := List.eraseIdx_sublist L i
 have hne : ∀ x ∈ L.eraseIdx i, x.n ≠ n := by
  intro x hx
  obtain ⟨k, hk, rfl⟩ := List.mem_iff_getElem.1 hx
  have hp := List.pairwise_iff_getElem.1 S.bb
  rw [List.length_eraseIdx] at hk
  rw [List.getElem_eraseIdx]
  split
  ·rename_i hlt
   have := hp k i (by omega) hi hlt
   rw [he] at this; exact this
  ·rename_i hge
   rw [if_pos hi] at hk
   have := hp i (k + 1) hi (by omega) (by omega)
   rw [he] at this; exact this.symm
 have hle : Le F (addF F w n) := fun b o hb => qG _ _ _ _ _ hb
 refine ⟨⟨S.gr.add b3, fun x hx => ?_, fun r hr => ?_, S.bb.sublist hsub, fun r hr x hx => S.rb r hr x (hsub.subset hx), S.rr⟩, hle, fun j v hv => ?_⟩
 ·have := S.blk x (hsub.subset hx)
  exact ⟨this.1, by rw [pH (hne x hx)]; exact this.2.1, this.2.2⟩
 ·have hr1 := S.row r hr
  have hn : ∀ g, r.ob = some g → addF F w n g = none := fun g hg => by
   rw [pH (fun e => S.rb r hr _ (St.mem h) (by rw [hg, e]))]
   exact (hr1.2 g hg).2.1
  exact ⟨r.stable _ _ _ _ hr1.1 (fun _ _ => rfl) hle hn, fun g hg => ⟨(hr1.2 g hg).1, hn g hg, (hr1.2 g hg).2.2⟩⟩
 ·unfold bH addF
  simp [b2, b1, hv]
end
def bV {α : Type} (k : Nat) (R : Fz → List Value → α → Prop) (hR : ∀ F F' x p, Le F F' → R F x p → R F' x p) (E base : Nat) (v : Value) (l : List α) : RowP where
  ob := v.ownBlock
  holds w F := Own k R E base w F v l
  stable := by
    intro w w' F F' h hh hl hn
    obtain ⟨el, ⟨e1, e2⟩, h2, h3⟩ := h.ex
    refine ⟨⟨el, ⟨e1, e2.imp id ?_⟩, h2.imp fun x p => hR _ _ x p hl, h3⟩, hn⟩
    rintro ⟨b, cap, cur, q1, q2, q3, q4⟩
    subst q1
    exact ⟨b, cap, cur, rfl, q2, (hh b rfl).trans q3, q4⟩
section
variable {w0 w w' : World} {F0 F F' : Fz} {L : List Blk} {M : List RowP} {α : Type} {k E base : Nat} {R : Fz → List Value → α → Prop} {hR : ∀ F F' x p, Le F F' → R F x p → R F' x p} {v : Value} {l : List α}
theorem St.own (S : St w0 F0 w F L M) {i : Nat} (h : M[i]? = some (bV k R hR E base v l)) : Own k R E base w F v l := by
 obtain ⟨h1, h2⟩ := List.getElem?_eq_some_iff.1 h
 have := (S.row _ (List.getElem_mem h1)).1
 rw [h2] at this
 exact this
theorem St.addNil (S : St w0 F0 w F L M) (k : Nat) (R : Fz → List Value → α → Prop) (hR : ∀ F F' x p, Le F F' → R F x p → R F' x p) (E base : Nat) : St w0 F0 w F L (bV k R hR E base (.slice none 0 0) [] :: M) :=
  ⟨S.gr, S.blk, fun r hr => by
    rcases List.mem_cons.1 hr with rfl | hr
    · exact ⟨Own.nil w F, fun g hg => by cases hg⟩
    · exact S.row r hr, S.bb, fun r hr x hx => by
    rcases List.mem_cons.1 hr with rfl | hr
    · intro h
      cases h
    · exact S.rb r hr x hx, List.pairwise_cons.2 ⟨fun s _ g hg => (by cases hg), S.rr⟩⟩
theorem pO {M : List RowP} {i : Nat} {r' : RowP} (h : M.Pairwise fun r s => ∀ g, r.ob = some g → s.ob ≠ some g) (hi : ∀ k (hk : k < M.length), k ≠ i → ∀ g, r'.ob = some g → M[k].ob ≠ some g) : (M.set i r').Pairwise fun r s => ∀ g, r.ob = some g → s.ob ≠ some g := by
 rw [List.pairwise_iff_getElem] at h ⊢
 intro a b ha hb hab
 simp only [List.length_set] at ha hb
 rw [List.getElem_set, List.getElem_set]
 split
 ·split
  ·omega
  ·intro g hg; exact hi b hb (by omega) g hg
 ·split
  ·intro g hg hg'; exact hi a ha (by omega) g hg' hg
  ·exact h a b ha hb hab
theorem St.grown (S : St w0 F0 w F L M) {i : Nat} (h : M[i]? = some (bV k R hR E base v l)) (hb : w0.heap.size ≤ base) {v' : Value} {l' : List α} (hg : w.grownBy w' v.ownBlock) (ho : Own k R E base w' F v' l') (hf : ∀ g, v'.ownBlock = some g → v.ownBlock = some g ∨ w.heap.size ≤ g) : St w0 F0 w' F L (M.set i (bV k R hR E base v' l')) := by
 obtain ⟨hi, he⟩ := List.getElem?_eq_some_iff.1 h
 have hm : bV k R hR E base v l ∈ M := by rw [← he]; exact List.getElem_mem hi
 have hown := S.own h
 have hr0 := S.row _ hm
 have hlt := ho.lt
 have hother : ∀ k' (hk : k' < M.length), k' ≠ i → ∀ g, v'.ownBlock = some g → M[k'].ob ≠ some g := by
  intro k' hk hne g hg' hc
  rcases hf g hg' with h1 | h1
  ·have hp := List.pairwise_iff_getElem.1 S.rr
   rcases Nat.lt_or_gt_of_ne hne with h2 | h2
   ·have := hp k' i hk hi h2 g hc; rw [he] at this; exact this h1
   ·have := hp i k' hi hk h2 g (by rw [he]; exact h1); exact this hc
  ·have := ((S.row _ (List.getElem_mem hk)).2 g hc).1
   omega
 refine ⟨S.gr.grown hg (fun g hg' => ⟨(hr0.2 g hg').2.2, (hr0.2 g hg').2.1⟩), fun x hx => ?_, fun r hr => ?_, S.bb, fun r hr x hx => ?_, pO S.rr hother⟩
 ·have := S.blk x hx
  have hne : v.ownBlock ≠ some x.n := S.rb _ hm x hx
  exact ⟨(hg.block _ (S.blk_lt hx) (fun e => hne e.symm)).trans this.1, this.2⟩
 ·obtain ⟨k', hk, rfl⟩ := List.mem_iff_getElem.1 hr
  have hk' : k' < M.length := by simpa using hk
  rw [List.getElem_set]
  split
  ·refine ⟨ho, fun g hg' => ⟨(hlt g hg').2, ho.out g hg', Nat.le_trans hb (hlt g hg').1⟩⟩
  ·rename_i hki
   have hr1 := S.row _ (List.getElem_mem hk')
   have hne : ∀ g, M[k'].ob = some g → v.ownBlock ≠ some g := fun g hg' hv => by
    have hp := List.pairwise_iff_getElem.1 S.rr
    rcases Nat.lt_or_gt_of_ne (fun e => hki e.symm : k' ≠ i) with h2 | h2
    ·have := hp k' i hk' hi h2 g hg'; rw [he] at this; exact this hv
    ·have := hp i k' hi hk' h2 g (by rw [he]; exact hv); exact this hg'
   exact ⟨RowP.stable _ _ _ _ _ hr1.1 (fun g hg' => hg.block _ (hr1.2 g hg').1 (fun e => hne g hg' e.symm)) (Le.refl _) (fun g hg' => (hr1.2 g hg').2.1), fun g hg' => ⟨Nat.lt_of_lt_of_le (hr1.2 g hg').1 hg.size, (hr1.2 g hg').2⟩⟩
 ·obtain ⟨k', hk, rfl⟩ := List.mem_iff_getElem.1 hr
  have hk' : k' < M.length := by simpa using hk
  rw [List.getElem_set]
  split
  ·intro e
   rcases hf x.n e with h1 | h1
   ·exact S.rb _ hm x hx h1
   ·have := S.blk_lt hx; omega
  ·exact S.rb _ (List.getElem_mem hk') x hx
theorem St.freeze (S : St w0 F0 w F L M) {i : Nat} (h : M[i]? = some (bV k R hR E base v l)) (hb : w0.heap.size ≤ base) : ∃ F', St w0 F0 w F' L (M.eraseIdx i) ∧ Le F F' ∧ Sl k R F' v l := by
 obtain ⟨hi, he⟩ := List.getElem?_eq_some_iff.1 h
 have hm : bV k R hR E base v l ∈ M := by rw [← he]; exact List.getElem_mem hi
 have hown := S.own h
 obtain ⟨el, h1, h2, h3⟩ := hown.ex
 have hsub := List.eraseIdx_sublist M i
 have hother : ∀ r ∈ M.eraseIdx i, ∀ g, v.ownBlock = some g → r.ob ≠ some g := by
  intro r hr g hg hc
  obtain ⟨k', hk, rfl⟩ := List.mem_iff_getElem.1 hr
  have hp := List.pairwise_iff_getElem.1 S.rr
  rw [List.length_eraseIdx, if_pos hi] at hk
  rw [List.getElem_eraseIdx] at hc
  split at hc
  ·rename_i hlt
   have := hp k' i (by omega) hi hlt g hc; rw [he] at this; exact this hg
  ·have := hp i (k' + 1) hi (by omega) (by omega) g (by rw [he]; exact hg); exact this hc
 rcases h1.2 with ⟨hv, hn⟩ | ⟨g, cap, cur, hv, q2, q3, q4⟩
 ·have hl : l = [] := List.eq_nil_of_length_eq_zero hn
  subst hl
  subst hv
  exact ⟨F, ⟨S.gr, S.blk, fun r hr => S.row r (hsub.subset hr), S.bb, fun r hr => S.rb r (hsub.subset hr), S.rr.sublist hsub⟩, Le.refl _, Sl.nil k R F⟩
 ·have hle : Le F (addF F w g) := fun b o hb => qG _ _ _ _ _ hb
  have hr0 := (S.row _ hm).2 g (by show v.ownBlock = _; rw [hv]; rfl)
  have hF : addF F w g g = some (.cells cur E (0, 0)) := by unfold addF; rw [hr0.2.1]; simp [q3]
  refine ⟨addF F w g, ⟨S.gr.add hr0.2.2, fun x hx => ?_, fun r hr => ?_, S.bb, fun r hr => S.rb r (hsub.subset hr), S.rr.sublist hsub⟩, hle, el, ?_, h2.imp fun x p => hR _ _ x p hle, h3⟩
  ·have := S.blk x hx
   have hne : x.n ≠ g := fun e => S.rb _ hm x hx (by show v.ownBlock = _; rw [hv, e]; rfl)
   exact ⟨this.1, by rw [pH hne]; exact this.2.1, this.2.2⟩
  ·have hr1 := S.row r (hsub.subset hr)
   have hn : ∀ b, r.ob = some b → addF F w g b = none := fun b hb' => by
    rw [pH (fun e => hother r hr g (by rw [hv]; rfl) (by rw [hb', e]))]
    exact (hr1.2 b hb').2.1
   exact ⟨r.stable _ _ _ _ hr1.1 (fun _ _ => rfl) hle hn, fun b hb' => ⟨(hr1.2 b hb').1, hn b hb', (hr1.2 b hb').2.2⟩⟩
  ·subst hv
   refine Rw.of_cells q4.1 q4.2.1 fun j u hu => ?_
   rw [← q4.2.2.2, List.getElem?_take] at hu
   split at hu
   ·unfold bH; rw [hF, Nat.zero_add]; simpa using hu
   ·cases hu
end
structure WL (P : Program) (ops : Array Oper) (Q : Exit → Act → World → Prop) (l : List Oper) (a : Act) (w : World) : Prop where
  out : wpList P ops Q l a w
structure GW (P : Program) (md : Region.Mode) (ops : Array Oper) (C : World → Prop) (Sp : Nat → OpSpec) (Lq : Act → eP → Prop) (l : List Oper) (k : Nat) (a : Act) (Vs : eP) : Prop where
  out : wpG P md ops C Sp Lq l k a Vs
section
variable {P : Program} {ops : Array Oper} {Q : Exit → Act → World → Prop} {a : Act} {w w' : World} {rest : List Oper} {o : Oper}
theorem aB {id : Nat} {l : List Oper} (h : WL P l.toArray Q l a w) : (Code.region id l.toArray false).wp P Q a w := wp_region_lit h.out
theorem aH (h : Q .normal a w) : WL P ops Q [] a w := ⟨wpList_nil h⟩
theorem do_ (hw : Region.wanted o (yielded ops a.tmps) = true) (v : Value) (hr : (execOp a.eval o).run P w = .ok (.value v) w') (h : WL P ops Q rest (a.put o.dst v) w') : WL P ops Q (o :: rest) a w := by
 refine ⟨?_⟩
 unfold wpList; rw [if_pos hw]; left; unfold Oper.wp; rw [hr]; exact h.out
theorem doS (hw : Region.wanted o (yielded ops a.tmps) = true) (hr : (execOp a.eval o).run P w = .ok .skip w') (h : WL P ops Q rest (a.put o.dst undef) w') : WL P ops Q (o :: rest) a w := by
 refine ⟨?_⟩
 unfold wpList; rw [if_pos hw]; left; unfold Oper.wp; rw [hr]; exact h.out
theorem doC {k : FuncId} {vs : Array Value} {R : Ending → World → Prop} (hw : Region.wanted o (yielded ops a.tmps) = true) (hr : (execOp a.eval o).run P w = .ok (.enter k vs) w) (hc : Calls P k vs w R)
    (h : ∀ e w', R e w' → ∃ v, e = .returned v ∧ WL P ops Q rest (a.put o.dst v) w') : WL P ops Q (o :: rest) a w := by
 refine ⟨?_⟩
 unfold wpList; rw [if_pos hw]; left; unfold Oper.wp; rw [hr]
 exact hc.mono fun e w' hR => by obtain ⟨v, rfl, hv⟩ := h e w' hR; exact hv.out
theorem doN (hw : Region.wanted o (yielded ops a.tmps) = false) (h : WL P ops Q rest (a.put o.dst undef) w) : WL P ops Q (o :: rest) a w := ⟨wpList_skip hw h.out⟩
end
section
variable {P : Program} {ρ : Operand → Value} {w : World} {d : Option Tmp} {t : TypeId} {pos : String} {after : Array Edge} {guard : Option (Nat × Bool)}
theorem gF (x : Operand) : (execOp ρ ⟨d, .move x, t, pos, after, guard⟩).run P w = .ok (.value (ρ x)) w := rfl
theorem pQ (x : Operand) : (execOp ρ ⟨d, .assign x, t, pos, after, guard⟩).run P w = .ok (.value (ρ x)) w := rfl
theorem tG {c x y : Operand} {b : Bool} (h : ρ c = .bool b) : (execOp ρ ⟨d, .pick c x y, t, pos, after, guard⟩).run P w = .ok (.value (if b then ρ x else ρ y)) w := by
 simp only [execOp, h]; cases b <;> rfl
theorem cA {x : Operand} {i : Nat} {vs : Array Value} {v : Value} (h : ρ x = .tuple vs) (hv : vs[i]? = some v) : (execOp ρ ⟨d, .extract x i, t, pos, after, guard⟩).run P w = .ok (.value v) w := by
 simp [execOp, h, Instr.extract, hv]
theorem qR {x : Operand} {T E : TypeId} {A : Option Addr} {n c : Nat} (hT : P.underlying T = some (.slice E)) (h : ρ x = .slice A n c) : (execOp ρ ⟨d, .call ⟨.builtin .len, #[x], #[T]⟩, t, pos, after, guard⟩).run P w = .ok (.value (.int .i64 n)) w := by
 simp [execOp, resolve, invoke, builtin, Builtin.len_, h, run_underlying hT w]; rfl
theorem lP {x : Operand} {p : Addr} (h : ρ x = .pointer (some p)) : (execOp ρ ⟨d, .nilCheck x, t, pos, after, guard⟩).run P w = .ok (.value (.pointer (some p))) w := by
 simp only [execOp, h]; rfl
theorem aE {x : Operand} {T : TypeId} {p : Addr} {v : Value} (h : ρ x = .pointer (some p)) (hl : (loadVar T p).run P w = .ok v w) : (execOp ρ ⟨d, .load T x, t, pos, after, guard⟩).run P w = .ok (.value v) w := by
 simp [execOp, h, Instr.loadAt, Instr.sureAddr, hl]
theorem vU {x y : Operand} {T : TypeId} {p : Addr} {w' : World} (h : ρ x = .pointer (some p)) (hl : (storeVar T p (ρ y)).run P w = .ok () w') : (execOp ρ ⟨d, .store T x y, t, pos, after, guard⟩).run P w = .ok .skip w' := by
 simp [execOp, h, Instr.storeAt, Instr.sureAddr, hl]
theorem cP {xs : Array Operand} {ats : Array TypeId} {k : FuncId} {vs : Array Value} (hv : xs.map ρ = vs) (hf : ρ (.func k) = .func (.func k) #[] #[]) (hk : (callFunc k vs).run P w = .ok (.enter k vs) w) : (execOp ρ ⟨d, .call ⟨.value (.func k), xs, ats⟩, t, pos, after, guard⟩).run P w = .ok (.enter k vs) w := by
 subst hv
 have : (#[] : Array Value) ++ Array.map ρ xs ++ #[] = Array.map ρ xs := by simp
 simp only [execOp, resolve, hf, Deferred.ofValue, Sem.run_bind, Sem.run_pure, Result.andThen_ok, invoke, this]
 exact hk
theorem MS {xs : Array Operand} {ats : Array TypeId} {k : FuncId} {vs : Array Value} {v : Value} (hv : xs.map ρ = vs) (hf : ρ (.func k) = .func (.func k) #[] #[]) (hk : (callFunc k vs).run P w = .ok (.value v) w) : (execOp ρ ⟨d, .call ⟨.value (.func k), xs, ats⟩, t, pos, after, guard⟩).run P w = .ok (.value v) w := by
 subst hv
 have : (#[] : Array Value) ++ Array.map ρ xs ++ #[] = Array.map ρ xs := by simp
 simp only [execOp, resolve, hf, Deferred.ofValue, Sem.run_bind, Sem.run_pure, Result.andThen_ok, invoke, this]
 exact hk
theorem uE {c : Operand} {xs : Array Operand} {ats : Array TypeId} {k : FuncId} {fs cs vs : Array Value} (hf : ρ c = .func (.func k) fs cs) (hv : fs ++ xs.map ρ ++ cs = vs) (hk : (callFunc k vs).run P w = .ok (.enter k vs) w) : (execOp ρ ⟨d, .call ⟨.value c, xs, ats⟩, t, pos, after, guard⟩).run P w = .ok (.enter k vs) w := by
 subst hv
 simp only [execOp, resolve, hf, Deferred.ofValue, Sem.run_bind, Sem.run_pure, Result.andThen_ok, invoke]
 exact hk
end
section
variable {P : Program} {ρ : Operand → Value} {w : World} {d : Option Tmp} {t : TypeId} {pos : String} {after : Array Edge} {guard : Option (Nat × Bool)} {x y : Operand} {X Y : TypeId} {k : IntKind} {m n : Int}
theorem dP (op : BinOp) (hop : op ≠ .shl ∧ op ≠ .shr) : (binOp op X (.int k m) (.int k n)).run P w = (match op with
    | .add | .sub | .mul => Op.intArith op k m n
    | .quo | .rem => Op.intDiv op k m n
    | .and | .or | .xor | .andNot => Op.intBits op k m n
    | _ => Op.intCmp op m n).run P w := by
  cases op <;> simp [binOp] <;> simp_all
theorem iW {op : BinOp} {v : Value} (hx : ρ x = .int k m) (hy : ρ y = .int k n) (h : (binOp op X (.int k m) (.int k n)).run P w = .ok v w) : (execOp ρ ⟨d, .binOp op X x y Y, t, pos, after, guard⟩).run P w = .ok (.value v) w := by
 have e : (eqGuard op X x y (.int k m) (.int k n)).run P w = .ok () w := by
  unfold eqGuard
  cases op <;> rfl
 simp only [execOp, hx, hy, Sem.run_bind, e, Result.andThen_ok, h, Sem.run_pure]
theorem nS {b : Bool} (hx : ρ x = .int k m) (hy : ρ y = .int k n) (h : decide (m < n) = b) : (execOp ρ ⟨d, .binOp .lss X x y Y, t, pos, after, guard⟩).run P w = .ok (.value (.bool b)) w := by
 subst h; exact iW hx hy (by rw [dP _ (by simp)]; rfl)
theorem UB {b : Bool} (hx : ρ x = .int k m) (hy : ρ y = .int k n) (h : decide (m ≤ n) = b) : (execOp ρ ⟨d, .binOp .leq X x y Y, t, pos, after, guard⟩).run P w = .ok (.value (.bool b)) w := by
 subst h; exact iW hx hy (by rw [dP _ (by simp)]; rfl)
theorem rW {b : Bool} (hx : ρ x = .int k m) (hy : ρ y = .int k n) (h : decide (n < m) = b) : (execOp ρ ⟨d, .binOp .gtr X x y Y, t, pos, after, guard⟩).run P w = .ok (.value (.bool b)) w := by
 subst h; exact iW hx hy (by rw [dP _ (by simp)]; rfl)
theorem xN {b : Bool} (hx : ρ x = .int k m) (hy : ρ y = .int k n) (h : decide (n ≤ m) = b) : (execOp ρ ⟨d, .binOp .geq X x y Y, t, pos, after, guard⟩).run P w = .ok (.value (.bool b)) w := by
 subst h; exact iW hx hy (by rw [dP _ (by simp)]; rfl)
theorem cB {b : Bool} (hx : ρ x = .int k m) (hy : ρ y = .int k n) (h : (m == n) = b) : (execOp ρ ⟨d, .binOp .eql X x y Y, t, pos, after, guard⟩).run P w = .ok (.value (.bool b)) w := by
 subst h; exact iW hx hy (by rw [dP _ (by simp)]; rfl)
theorem cC {b : Bool} (hx : ρ x = .int k m) (hy : ρ y = .int k n) (h : (m != n) = b) : (execOp ρ ⟨d, .binOp .neq X x y Y, t, pos, after, guard⟩).run P w = .ok (.value (.bool b)) w := by
 subst h; exact iW hx hy (by rw [dP _ (by simp)]; rfl)
theorem jN {z : Int} (h1 : -9223372036854775808 ≤ z) (h2 : z ≤ 9223372036854775807) : IntKind.i64.wrap z = z := IntWalk.i64_in z ⟨h1, h2⟩
theorem fW {r : Int} (hx : ρ x = .int .i64 m) (hy : ρ y = .int .i64 n) (e : m + n = r) (h1 : -9223372036854775808 ≤ r) (h2 : r ≤ 9223372036854775807) : (execOp ρ ⟨d, .binOp .add X x y Y, t, pos, after, guard⟩).run P w = .ok (.value (.int .i64 r)) w := by
 subst e
 refine iW hx hy ?_
 rw [dP _ (by simp)]
 show Result.ok (Value.int .i64 (IntKind.i64.wrap (m + n))) w = _
 rw [jN h1 h2]
theorem uM {r : Int} (hx : ρ x = .int .i64 m) (hy : ρ y = .int .i64 n) (e : m - n = r) (h1 : -9223372036854775808 ≤ r) (h2 : r ≤ 9223372036854775807) : (execOp ρ ⟨d, .binOp .sub X x y Y, t, pos, after, guard⟩).run P w = .ok (.value (.int .i64 r)) w := by
 subst e
 refine iW hx hy ?_
 rw [dP _ (by simp)]
 show Result.ok (Value.int .i64 (IntKind.i64.wrap (m - n))) w = _
 rw [jN h1 h2]
theorem UC {r : Int} (hx : ρ x = .int .i64 m) (hy : ρ y = .int .i64 n) (e : m * n = r) (h1 : -9223372036854775808 ≤ r) (h2 : r ≤ 9223372036854775807) : (execOp ρ ⟨d, .binOp .mul X x y Y, t, pos, after, guard⟩).run P w = .ok (.value (.int .i64 r)) w := by
 subst e
 refine iW hx hy ?_
 rw [dP _ (by simp)]
 show Result.ok (Value.int .i64 (IntKind.i64.wrap (m * n))) w = _
 rw [jN h1 h2]
theorem xO {b c : Bool} (hx : ρ x = .bool b) (h : (!b) = c) : (execOp ρ ⟨d, .unOp .not X x, t, pos, after, guard⟩).run P w = .ok (.value (.bool c)) w := by
 subst h; simp only [execOp, hx]; rfl
theorem oP {b c r : Bool} (hX : P.underlying X = some .bool) (hx : ρ x = .bool b) (hy : ρ y = .bool c) (h : (b == c) = r) : (execOp ρ ⟨d, .binOp .eql X x y Y, t, pos, after, guard⟩).run P w = .ok (.value (.bool r)) w := by
 subst h
 have e : (binOp .eql X (.bool b) (.bool c)).run P w = .ok (.bool (b == c)) w := by
  simp only [binOp, Sem.run_bind, run_equal_bool w X b c hX, Result.andThen_ok, Sem.run_pure]
 have e2 : (eqGuard .eql X x y (.bool b) (.bool c)).run P w = .ok () w := rfl
 simp only [execOp, hx, hy, Sem.run_bind, e2, Result.andThen_ok, e, Sem.run_pure]
theorem bK {T : TypeId} {E : TypeId} {b o l c : Nat} {i : Nat} {sz q : Nat} (hT : P.underlying T = some (.slice E)) (hs : (sizeOf E).run P w = .ok sz w) {A : Option Addr} (hx : ρ x = .slice A l c) (hA : A = some ⟨b, o, none⟩) (hy : ρ y = .int .i64 i) (hi : i < l) (hq : o + i * sz = q) :
    (execOp ρ ⟨d, .indexAddr T x y, t, pos, after, guard⟩).run P w = .ok (.value (.pointer (some ⟨b, q, none⟩))) w := by
 subst hq
 subst hA
 have hadd : (⟨b, o, none⟩ : Addr).add (i * sz) = ⟨b, o + i * sz, none⟩ := Addr.add_mid b o (i * sz)
 have hlt : (0 : Int) ≤ (i : Int) ∧ (i : Int) < (l : Int) := by omega
 simp [execOp, hx, hy, Instr.indexAt, asIntOf, Sem.run_bind, run_underlying hT w, hs, hadd]
 intro h; omega
theorem vV {p q : Addr} {f : Nat} (hx : ρ x = .pointer (some p)) (hf : ∀ w, (Instr.fieldAt X (.pointer (some p)) f).run P w = .ok (.pointer (some q)) w) : (execOp ρ ⟨d, .fieldAddr X x f, t, pos, after, guard⟩).run P w = .ok (.value (.pointer (some q))) w := by
 simp [execOp, hx, hf]
theorem aJ {parts : Array (Nat × Operand)} {cells : Array Value} {ps : Array (Nat × Value)} (hp : (parts.map fun (i, x) => (i, ρ x)) = ps) (h : (Instr.build X ps).run P w = .ok (.agg cells) w) : (execOp ρ ⟨d, .build X parts, t, pos, after, guard⟩).run P w = .ok (.value (.agg cells)) w := by
 subst hp
 simp only [execOp, Sem.run_bind, h, Result.andThen_ok, Sem.run_pure]
theorem bA {E : TypeId} {A : Option Addr} {n c : Nat} {lo hi : Option Operand} {l h : Nat} {sz : Nat} {v : Value} (hX : P.underlying X = some (.slice E)) (hx : ρ x = .slice A n c) (hsz : (sizeOf E).run P w = .ok sz w)
    (hl : (lo = none ∧ l = 0) ∨ ∃ q, lo = some q ∧ ρ q = .int .i64 l) (hh : (hi = none ∧ h = n) ∨ ∃ q, hi = some q ∧ ρ q = .int .i64 h) (h1 : l ≤ h) (h2 : h ≤ c)
    (hv : v = .slice (if c = l then A else A.map (·.add (l * sz))) (h - l) (c - l)) : (execOp ρ ⟨d, .slice X x lo hi none, t, pos, after, guard⟩).run P w = .ok (.value v) w := by
 subst hv
 have hb : (Instr.sliceBounds true n c (lo.map ρ) (hi.map ρ) none).run P w = .ok (l, h, c) w := by
  have b1 : ∀ (z y : Nat) (code : BoundsCode), z ≤ y → (Instr.sliceBound (.int .i64 z) y code).run P w = .ok z w := by
   intro z y code hzy
   have : (0 : Int) ≤ (z : Int) ∧ (z : Int) ≤ (y : Int) := by omega
   simp [Instr.sliceBound, asIntOf, this]
  rcases hl with ⟨rfl, rfl⟩ | ⟨q, rfl, hq⟩ <;> rcases hh with ⟨rfl, rfl⟩ | ⟨q', rfl, hq'⟩
  ·simp [Instr.sliceBounds]
  ·simp [Instr.sliceBounds, hq', b1 _ _ _ h2]
  ·simp [Instr.sliceBounds, hq, b1 _ _ _ h1]
  ·simp [Instr.sliceBounds, hq', hq, b1 _ _ _ h2, b1 _ _ _ h1]
 have hs : (Instr.sliceAt X (.slice A n c) (lo.map ρ) (hi.map ρ) none).run P w = .ok (.slice (if c = l then A else A.map (·.add (l * sz))) (h - l) (c - l)) w := by
  simp [Instr.sliceAt, Sem.run_bind, run_underlying hX w, Instr.slice, hb, hsz]
 simp [execOp, hx, hs]
end
section
variable {P : Program} {w0 w w' : World} {F0 F : Fz} {L : List Blk} {M : List RowP}
theorem aT {T : TypeId} {b o : Nat} {v : Value} (hT : (isAgg T).run P w = .ok false w) (hc : w.cell? ⟨b, o, none⟩ = some v) : (loadVar T ⟨b, o, none⟩).run P w = .ok v w := by
 simp [loadVar, Sem.run_bind, hT, hc]
theorem kW {T : TypeId} {b o : Nat} {cs : List Value} {d : TypeDesc} (hu : P.underlying T = some d) (hd : d.isRow = true) (hi : (P.info? T).map (·.size) = some cs.length) (hc : w.rangeAt b o cs) : (loadVar T ⟨b, o, none⟩).run P w = .ok (.agg cs.toArray) w := run_loadVar_mid w b o T cs d hc hu hd hi
theorem FX {T : TypeId} {b o : Nat} {v : Value} (hi : (P.info? T).map (·.size) = some v.cells.size) (ht : w.there b o v.cells.size) (h1 : v.cells.all (·.oneCell') = true) : (storeVar T ⟨b, o, none⟩ v).run P w = .ok () (w.setCells b o v.cells.toList) := by
 have := run_storeVar_mid w b o T v.cells ht hi h1
 unfold storeVar at *
 exact this
theorem AS {ρ : Operand → Value} {d : Option Tmp} {t T : TypeId} {pos : String} {after : Array Edge} {guard : Option (Nat × Bool)} {z : Value} (hz : (zeroValue T).run P w = .ok z w) :
    (execOp ρ ⟨d, .alloc T, t, pos, after, guard⟩).run P w = .ok (.value (.pointer (some ⟨w.heap.size, 0, none⟩))) (w.alloc (.cells z.cells T)) := by
 simp only [execOp, Instr.alloc, Sem.run_bind, hz, Result.andThen_ok]
 rfl
theorem bW {ρ : Operand → Value} {d : Option Tmp} {t T : TypeId} {x : Operand} {pos : String} {after : Array Edge} {guard : Option (Nat × Bool)} {v : Value} (hx : ρ x = v) :
    (execOp ρ ⟨d, .box T x, t, pos, after, guard⟩).run P w = .ok (.value (.pointer (some ⟨w.heap.size, 0, none⟩))) (w.alloc (.cells v.cells T)) := by
 subst hx
 simp only [execOp, Instr.box, Sem.run_bind]
 rfl
theorem bS {ρ : Operand → Value} {d : Option Tmp} {t T E : TypeId} {n : Nat} {parts : Array (Nat × Operand)} {ps : Array (Nat × Value)} {pos : String} {after : Array Edge} {guard : Option (Nat × Bool)} {cells : Array Value} (hp : (parts.map fun (i, x) => (i, ρ x)) = ps)
    (h : ∀ w, (Instr.buildSlice T n ps).run P w = .ok (.slice (some ⟨w.heap.size, 0, none⟩) n n) (w.alloc (.cells cells E))) :
    (execOp ρ ⟨d, .buildSlice T n parts, t, pos, after, guard⟩).run P w = .ok (.value (.slice (some ⟨w.heap.size, 0, none⟩) n n)) (w.alloc (.cells cells E)) := by
 subst hp
 simp only [execOp, Sem.run_bind, h, Result.andThen_ok, Sem.run_pure]
theorem aZ {ops : Array Oper} {Q : Exit → Act → World → Prop} {a : Act} {rest : List Oper} {o : Oper} {cs : Array Value} {T : TypeId} {v : Nat → Value} (S : St w0 F0 w F L M) (hw : Region.wanted o (yielded ops a.tmps) = true)
    (hr : (execOp a.eval o).run P w = .ok (.value (v w.heap.size)) (w.alloc (.cells cs T)))
    (h : ∀ n w', St w0 F0 w' F (⟨n, cs.toList, T⟩ :: L) M → WL P ops Q rest (a.put o.dst (v n)) w') : WL P ops Q (o :: rest) a w :=
  do_ hw _ hr (h _ _ (S.alloc cs T))
theorem fK {ops : Array Oper} {Q : Exit → Act → World → Prop} {a : Act} {rest : List Oper} {d : Option Tmp} {t T T' : TypeId} {x y : Operand} {pos : String} {after : Array Edge} {guard : Option (Nat × Bool)} {i n j : Nat} {c : List Value} {v : Value} (S : St w0 F0 w F L M)
    (hw : Region.wanted ⟨d, .store T x y, t, pos, after, guard⟩ (yielded ops a.tmps) = true) (hx : a.eval x = .pointer (some ⟨n, j, none⟩)) (hy : a.eval y = v) (hL : L[i]? = some ⟨n, c, T'⟩)
    (hi : (P.info? T).map (·.size) = some v.cells.size) (h1 : v.cells.all (·.oneCell') = true) (hl : j + v.cells.size ≤ c.length)
    (h : ∀ w', St w0 F0 w' F (L.set i ⟨n, bQ c j v.cells.toList, T'⟩) M → WL P ops Q rest (a.put d undef) w') : WL P ops Q (⟨d, .store T x y, t, pos, after, guard⟩ :: rest) a w := by
 have hs := FX (P := P) (T := T) (v := v) hi (S.there hL j v.cells.size hl) h1
 refine doS hw (vU hx (by rw [hy]; exact hs)) (h _ (S.store hL j v.cells.toList (by simpa using hl)))
theorem aY {ops : Array Oper} {Q : Exit → Act → World → Prop} {a : Act} {rest : List Oper} {o : Oper} {k : FuncId} {vs : Array Value} {R : Fz → Value → Prop} (S : St w0 F0 w F L M) (hw : Region.wanted o (yielded ops a.tmps) = true)
    (hr : (execOp a.eval o).run P w = .ok (.enter k vs) w) (hc : Calls P k vs w (dO w F R))
    (h : ∀ v w' F', St w0 F0 w' F' L M → Le F F' → R F' v → WL P ops Q rest (a.put o.dst v) w') : WL P ops Q (o :: rest) a w :=
  doC hw hr hc fun e w' ⟨v, F', he, g, hR⟩ => ⟨v, he, h v w' F' (S.gives g) (g.le S.sat) hR⟩
theorem aL {ops : Array Oper} {Q : Exit → Act → World → Prop} {a : Act} {rest : List Oper} {o : Oper} {k : FuncId} {vs : Array Value} {v : Value} (S : St w0 F0 w F L M) (hw : Region.wanted o (yielded ops a.tmps) = true)
    (hr : (execOp a.eval o).run P w = .ok (.enter k vs) w) (hc : Calls P k vs w (cY w v))
    (h : ∀ w', St w0 F0 w' F L M → WL P ops Q rest (a.put o.dst v) w') : WL P ops Q (o :: rest) a w :=
  doC hw hr hc fun e w' ⟨he, hb⟩ => ⟨v, he, h w' (S.tells hb)⟩
theorem fN {k : FuncId} {vs : Array Value} {v : Value} (h : Calls P k vs w fun e w' => e = .returned v ∧ w' = w) : Calls P k vs w (cY w v) := h.mono fun e w' ⟨he, hw⟩ => ⟨he, by subst hw; exact Below.refl _ _⟩
theorem eK {ops : Array Oper} {Q : Exit → Act → World → Prop} {a : Act} {rest : List Oper} {d : Option Tmp} {t T E : TypeId} {x s : Operand} {pos : String} {after : Array Edge} {guard : Option (Nat × Bool)} {α : Type} {k base : Nat} {R : Fz → List Value → α → Prop} {hR : ∀ F F' x p, Le F F' → R F x p → R F' x p}
    {v : Value} {l : List α} {p : α} {i r n cp : Nat} {cs : List Value} {T' : TypeId} (S : St w0 F0 w F L M) (hw : Region.wanted ⟨d, .call ⟨.builtin .append, #[s, x], #[T, T]⟩, t, pos, after, guard⟩ (yielded ops a.tmps) = true)
    (inf : TypeInfo) (z : Value) (bytes : Nat) (ht : P.underlying T = some (.slice E)) (hi : P.info? E = some inf) (hz : inf.zero = some z) (hsize : inf.size = k) (hby : inf.bytes = bytes) (hzs : z.cells.size = k) (hsz : 0 < k)
    (hs : a.eval s = v) (hx : a.eval x = .slice (some ⟨n, 0, none⟩) 1 cp) (hM : M[r]? = some (bV k R hR E base v l)) (hL : L[i]? = some ⟨n, cs, T'⟩) (hl : cs.length = k) (h1 : ∀ u ∈ cs, u.oneCell' = true) (hp : R F cs p)
    (hb : w0.heap.size ≤ base) (hb2 : base ≤ w.heap.size) (a0 : l.length + 1 ≤ maxLen) (hbytes : (l.length + 1) * bytes ≤ 140737488355328)
    (h : ∀ v' w', St w0 F0 w' F L (M.set r (bV k R hR E base v' (l ++ [p]))) → v' ≠ .slice none 0 0 → WL P ops Q rest (a.put d v') w') : WL P ops Q (⟨d, .call ⟨.builtin .append, #[s, x], #[T, T]⟩, t, pos, after, guard⟩ :: rest) a w := by
 obtain ⟨el, e1, e2, e3⟩ := (S.own hM).ex
 have hbk := (S.blk _ (St.mem hL)).1
 obtain ⟨g, cap, w', hrun, h2, h3, h4, h5⟩ := run_append_lies w T t base E inf z k bytes ht hi hz hsize hby hzs hsz v l.length el.flatten e1 ⟨n, 0, none⟩ 1 cp cs (by rw [hl]; omega) (fun j u hu => World.news_of_block hbk j u (by simpa using hu)) h1 (by omega) a0 hbytes hb2 w.heap.size rfl (P := P)
 have hout : ∀ g', (Value.slice (some ⟨g, 0, none⟩) (l.length + 1) cap).ownBlock = some g' → F g' = none := by
  intro g' hg'
  cases hg'
  rcases h4 with h4 | h4
  ·exact (S.own hM).out _ h4
  ·subst h4; exact S.sat.out (Nat.le_refl _)
 have hown : Own k R E base w' F (.slice (some ⟨g, 0, none⟩) (l.length + 1) cap) (l ++ [p]) := by
  refine ⟨⟨el ++ [cs], ?_, e2.append ⟨hp, trivial⟩, fun y hy => ?_⟩, hout⟩
  ·rw [List.flatten_append, List.length_append]
   simpa using h2
  ·rcases List.mem_append.1 hy with hy | hy
   ·exact e3 y hy
   ·rw [List.mem_singleton.1 hy]; exact hl
 refine do_ hw (.slice (some ⟨g, 0, none⟩) (l.length + 1) cap) ?_ (h _ w' (S.grown hM hb h3 hown (fun g' hg' => ?_)) (by simp))
 ·simp only [execOp, resolve, invoke, builtin, Sem.run_bind, Sem.run_pure, Result.andThen_ok, List.map_toArray, List.map_cons, List.map_nil, hs, hx, hrun]
 ·cases hg'
  rcases h4 with h4 | h4
  ·exact .inl h4
  ·exact .inr (Nat.le_of_eq h4.symm)
end
theorem eF {c cs : List Value} (j : Nat) (h : (c.drop j).take cs.length = cs) : ∀ (k : Nat) v, cs[k]? = some v → c[j + k]? = some v := by
 intro k v hk
 rw [← h, List.getElem?_take] at hk
 split at hk
 ·rwa [List.getElem?_drop] at hk
 ·cases hk
section
variable {w : World} {b o : Nat} {x y z u : Value}
theorem mR (h0 : w.cell? ⟨b, o, none⟩ = some x) (h1 : w.cell? ⟨b, o + 1, none⟩ = some y) : w.rangeAt b o [x, y] := fun j v hv => by
  match j, hv with
  | 0, hv => cases hv; exact h0
  | 1, hv => cases hv; exact h1
theorem qS (h0 : w.cell? ⟨b, o, none⟩ = some x) (h1 : w.cell? ⟨b, o + 1, none⟩ = some y) (h2 : w.cell? ⟨b, o + 2, none⟩ = some z) : w.rangeAt b o [x, y, z] := fun j v hv => by
  match j, hv with
  | 0, hv => cases hv; exact h0
  | 1, hv => cases hv; exact h1
  | 2, hv => cases hv; exact h2
theorem eL (h0 : w.cell? ⟨b, o, none⟩ = some x) (h1 : w.cell? ⟨b, o + 1, none⟩ = some y) (h2 : w.cell? ⟨b, o + 2, none⟩ = some z) (h3 : w.cell? ⟨b, o + 3, none⟩ = some u) : w.rangeAt b o [x, y, z, u] := fun j v hv => by
  match j, hv with
  | 0, hv => cases hv; exact h0
  | 1, hv => cases hv; exact h1
  | 2, hv => cases hv; exact h2
  | 3, hv => cases hv; exact h3
theorem fE {A : Option Addr} {c sz n l c' : Nat} (h : l = n := by rfl) (hc : c' = c := by rfl) : (Value.slice A l c') = .slice (if c = 0 then A else A.map (·.add (0 * sz))) (n - 0) (c - 0) := by
 subst h; subst hc
 split
 ·rfl
 ·have : A.map (·.add (0 * sz)) = A := by cases A <;> simp [Addr.add]
  rw [this]; rfl
theorem fB {b o c sz l n n' c' o' : Nat} (h : l < c) (hn : n - l = n') (hc : c - l = c') (ho : o + l * sz = o') : (Value.slice (some ⟨b, o', none⟩) n' c') = .slice (if c = l then some ⟨b, o, none⟩ else (some ⟨b, o, none⟩ : Option Addr).map (·.add (l * sz))) (n - l) (c - l) := by
 subst hn; subst hc; subst ho
 rw [if_neg (by omega)]
 show _ = Value.slice (some (Addr.add ⟨b, o, none⟩ (l * sz))) _ _
 rw [Addr.add_mid]
end
section
variable {P : Program} {fn : Func} {tmps : Array Value} {w : World}
theorem qT (p : Addr) : (asAddr (.pointer (some p))).run P w = .ok p w := rfl
theorem PA {c T : Nat} {v : Value} (h : fn.results = #[.cell c T]) (h1 : ∃ p, tmps.getD c undef = .pointer (some p) ∧ (loadVar T p).run P w = .ok v w) : (results fn tmps).run P w = .ok v w := by
 obtain ⟨p, h1, h2⟩ := h1
 rw [Array.getD_eq_getD_getElem?] at h1
 simp [results, h, h1, qT, h2]
theorem cZ {c T t : Nat} {v : Value} (h : fn.results = #[.cell c T, .tmp t]) (h1 : ∃ p, tmps.getD c undef = .pointer (some p) ∧ (loadVar T p).run P w = .ok v w) {u : Value} (h2 : tmps.getD t undef = u) : (results fn tmps).run P w = .ok (.tuple #[v, u]) w := by
 obtain ⟨p, h1, h3⟩ := h1
 subst h2
 rw [Array.getD_eq_getD_getElem?] at h1
 simp [results, h, h1, qT, h3]
theorem PB {c T t s : Nat} {v : Value} (h : fn.results = #[.cell c T, .tmp t, .tmp s]) (h1 : ∃ p, tmps.getD c undef = .pointer (some p) ∧ (loadVar T p).run P w = .ok v w) {u x : Value} (h2 : tmps.getD t undef = u) (h4 : tmps.getD s undef = x) : (results fn tmps).run P w = .ok (.tuple #[v, u, x]) w := by
 obtain ⟨p, h1, h3⟩ := h1
 subst h2; subst h4
 rw [Array.getD_eq_getD_getElem?] at h1
 simp [results, h, h1, qT, h3]
theorem tH {c T t s : Nat} {v : Value} (h : fn.results = #[.tmp t, .cell c T, .tmp s]) {u x : Value} (h2 : tmps.getD t undef = u) (h1 : ∃ p, tmps.getD c undef = .pointer (some p) ∧ (loadVar T p).run P w = .ok v w) (h4 : tmps.getD s undef = x) : (results fn tmps).run P w = .ok (.tuple #[u, v, x]) w := by
 obtain ⟨p, h1, h3⟩ := h1
 subst h2; subst h4
 rw [Array.getD_eq_getD_getElem?] at h1
 simp [results, h, h1, qT, h3]
theorem iN (h : fn.results = #[]) : (results fn tmps).run P w = .ok (.tuple #[]) w := results_none h _ _ _
theorem bC {t : Nat} {v : Value} (h : fn.results = #[.tmp t]) (h1 : tmps.getD t undef = v) : (results fn tmps).run P w = .ok v w := by
 subst h1; exact results_tmp h _ _ _
theorem cI {t s : Nat} {u v : Value} (h : fn.results = #[.tmp t, .tmp s]) (h1 : tmps.getD t undef = u) (h2 : tmps.getD s undef = v) : (results fn tmps).run P w = .ok (.tuple #[u, v]) w := by
 subst h1; subst h2; exact results_tmp2 h _ _ _
theorem aN {o : Oper} {a : Act} {v : Value} (h : (execOp a.eval o).run P w = .ok (.value v) w) : PureAt P o a w v := by unfold PureAt; rw [h]; exact ⟨rfl, rfl⟩
theorem bX {o : Oper} {a : Act} {Φ : Value → World → Prop} {k : FuncId} {vs : Array Value} (h : (execOp a.eval o).run P w = .ok (.enter k vs) w) (hc : Calls P k vs w (nN Φ)) : kU P o a w Φ := by unfold kU; rw [h]; exact ⟨rfl, hc⟩
end
theorem pS (t : Array Value) (ds : List Deferred) (d : Tmp) (v : Value) : (⟨t, ds⟩ : Act).put (some d) v = ⟨t.setIfInBounds d v, ds⟩ := rfl
theorem pN (a : Act) (v : Value) : a.put none v = a := rfl
theorem pA (l : List Value) (i : Nat) (v : Value) : l.toArray.setIfInBounds i v = (l.set i v).toArray := List.setIfInBounds_toArray ..
theorem pC (x : Value) (l : List Value) (n : Nat) (v : Value) : (x :: l).set (n + 1) v = x :: l.set n v := rfl
theorem pZ (x : Value) (l : List Value) (v : Value) : (x :: l).set 0 v = v :: l := rfl
def PC : List Value → Nat → Value
  | [], _ => undef
  | v :: _, 0 => v
  | _ :: l, n + 1 => PC l n
def dY (a : Act) : Nat → Value := PC a.tmps.toList
theorem AT {p : Nat → Prop} (h : ∃ n, p n) : ∃ n, p n ∧ ∀ m, p m → n ≤ m := by
 obtain ⟨n, hn⟩ := h
 induction n using Nat.strongRecOn with
 | _ n ih =>
  by_cases hx : ∃ m, m < n ∧ p m
  ·obtain ⟨m, h1, h2⟩ := hx; exact ih m h1 h2
  ·exact ⟨n, hn, fun m hm => Nat.le_of_not_lt fun h => hx ⟨m, h, hm⟩⟩
open Classical in
noncomputable def zH (p : Nat → Prop) : Nat := if h : ∃ n, p n then (AT h).choose else 0
theorem vW {p : Nat → Prop} (h : ∃ n, p n) : p (zH p) ∧ ∀ m, p m → zH p ≤ m := by
 unfold zH; rw [dif_pos h]; exact (AT h).choose_spec
theorem aW {P : Program} {c : Code} {Q : Exit → Act → World → Prop} {a : Act} {w : World} (I : Nat → Act → World → Prop) (n : Nat) (h0 : I n a w)
    (round : ∀ n a w, I n a w → ∀ K : Act → World → Prop, (∀ m a' w', m < n → I m a' w' → K a' w') → c.wp P (Exit.then K Q) a w) : (Code.loop c).wp P Q a w :=
  wp_loop (fun a w => ∃ n, I n a w) (fun a w => zH fun n => I n a w) ⟨n, h0⟩ fun a w h => by
    have hs := vW h
    refine round _ a w hs.1 _ fun m a' w' hm hI => ⟨⟨m, hI⟩, ?_⟩
    exact Nat.lt_of_le_of_lt ((vW (p := fun n => I n a' w') ⟨m, hI⟩).2 m hI) hm
section
variable {ρ : Operand → Value}
theorem gP : ((#[] : Array (Nat × Operand)).map fun (i, x) => (i, ρ x)) = #[] := by simp
theorem kX {x0 : Operand} {v0 : Value} (h0 : ρ x0 = v0) : #[x0].map ρ = #[v0] := by simp [h0]
theorem cG {x0 : Operand} {v0 : Value} {i0 : Nat} (h0 : ρ x0 = v0) : (#[(i0, x0)].map fun ((i, x) : Nat × Operand) => (i, ρ x)) = #[(i0, v0)] := by simp [h0]
theorem iX {x0 x1 : Operand} {v0 v1 : Value} (h0 : ρ x0 = v0) (h1 : ρ x1 = v1) : #[x0, x1].map ρ = #[v0, v1] := by simp [h0, h1]
theorem eZ {x0 x1 : Operand} {v0 v1 : Value} {i0 i1 : Nat} (h0 : ρ x0 = v0) (h1 : ρ x1 = v1) : (#[(i0, x0), (i1, x1)].map fun ((i, x) : Nat × Operand) => (i, ρ x)) = #[(i0, v0), (i1, v1)] := by simp [h0, h1]
theorem IU {x0 x1 x2 : Operand} {v0 v1 v2 : Value} (h0 : ρ x0 = v0) (h1 : ρ x1 = v1) (h2 : ρ x2 = v2) : #[x0, x1, x2].map ρ = #[v0, v1, v2] := by simp [h0, h1, h2]
theorem PD {x0 x1 x2 : Operand} {v0 v1 v2 : Value} {i0 i1 i2 : Nat} (h0 : ρ x0 = v0) (h1 : ρ x1 = v1) (h2 : ρ x2 = v2) : (#[(i0, x0), (i1, x1), (i2, x2)].map fun ((i, x) : Nat × Operand) => (i, ρ x)) = #[(i0, v0), (i1, v1), (i2, v2)] := by simp [h0, h1, h2]
theorem Fu {x0 x1 x2 x3 : Operand} {v0 v1 v2 v3 : Value} (h0 : ρ x0 = v0) (h1 : ρ x1 = v1) (h2 : ρ x2 = v2) (h3 : ρ x3 = v3) : #[x0, x1, x2, x3].map ρ = #[v0, v1, v2, v3] := by simp [h0, h1, h2, h3]
theorem mE {x0 x1 x2 x3 : Operand} {v0 v1 v2 v3 : Value} {i0 i1 i2 i3 : Nat} (h0 : ρ x0 = v0) (h1 : ρ x1 = v1) (h2 : ρ x2 = v2) (h3 : ρ x3 = v3) : (#[(i0, x0), (i1, x1), (i2, x2), (i3, x3)].map fun ((i, x) : Nat × Operand) => (i, ρ x)) = #[(i0, v0), (i1, v1), (i2, v2), (i3, v3)] := by simp [h0, h1, h2, h3]
theorem Ep {x0 x1 x2 x3 x4 : Operand} {v0 v1 v2 v3 v4 : Value} (h0 : ρ x0 = v0) (h1 : ρ x1 = v1) (h2 : ρ x2 = v2) (h3 : ρ x3 = v3) (h4 : ρ x4 = v4) : #[x0, x1, x2, x3, x4].map ρ = #[v0, v1, v2, v3, v4] := by simp [h0, h1, h2, h3, h4]
theorem Es {x0 x1 x2 x3 x4 : Operand} {v0 v1 v2 v3 v4 : Value} {i0 i1 i2 i3 i4 : Nat} (h0 : ρ x0 = v0) (h1 : ρ x1 = v1) (h2 : ρ x2 = v2) (h3 : ρ x3 = v3) (h4 : ρ x4 = v4) : (#[(i0, x0), (i1, x1), (i2, x2), (i3, x3), (i4, x4)].map fun ((i, x) : Nat × Operand) => (i, ρ x)) = #[(i0, v0), (i1, v1), (i2, v2), (i3, v3), (i4, v4)] := by simp [h0, h1, h2, h3, h4]
theorem CY {fs cs xs : Array Value} {os : Array Operand} {vs : Array Value} (h : os.map ρ = xs) (h2 : fs ++ xs ++ cs = vs) : fs ++ os.map ρ ++ cs = vs := by rw [h]; exact h2
end
theorem mF {x0 : Value} (h0 : x0.oneCell' = true) : (#[x0] : Array Value).all (·.oneCell') = true := by simp [h0]
theorem Ch {x0 x1 : Value} (h0 : x0.oneCell' = true) (h1 : x1.oneCell' = true) : (#[x0, x1] : Array Value).all (·.oneCell') = true := by simp [h0, h1]
theorem PE {x0 x1 x2 : Value} (h0 : x0.oneCell' = true) (h1 : x1.oneCell' = true) (h2 : x2.oneCell' = true) : (#[x0, x1, x2] : Array Value).all (·.oneCell') = true := by simp [h0, h1, h2]
theorem Et {x0 x1 x2 x3 : Value} (h0 : x0.oneCell' = true) (h1 : x1.oneCell' = true) (h2 : x2.oneCell' = true) (h3 : x3.oneCell' = true) : (#[x0, x1, x2, x3] : Array Value).all (·.oneCell') = true := by simp [h0, h1, h2, h3]
theorem bY {o oj : Oper} {ops : Array Oper} {tmps : Array Value} {j d : Nat} {b c : Bool} (hg : o.guard = some (j, b)) (hj : ops[j]? = some oj) (hd : oj.dst = some d) (hv : tmps.getD d undef = .bool c) (hc : c ≠ b) : Region.wanted o (yielded ops tmps) = false := by
 rw [Array.getD_eq_getD_getElem?] at hv
 have e : tmps[d]? = some (.bool c) := by
  cases h : tmps[d]? with
  | none => rw [h] at hv; cases hv
  | some x => rw [h] at hv; cases hv; rfl
 simp [Region.wanted, hg, yielded, hj, hd, e, hc]
section
variable {P : Program} {ops : Array Oper} {md : Region.Mode} {C : World → Prop} {Sp : Nat → OpSpec} {Lq : Act → eP → Prop} {o : Oper} {l : List Oper} {k : Nat} {a : Act} {Vs : eP}
theorem bN (h : Lq a Vs) : GW P md ops C Sp Lq [] k a Vs := ⟨YJ h⟩
theorem gQ (hw : Region.wanted o (yielded ops a.tmps) = true) (hs : Sp k = .pure) (v : Value) (h : ∀ w, C w → PureAt P o a w v) (hn : GW P md ops C Sp Lq l (k + 1) (a.put o.dst v) Vs) : GW P md ops C Sp Lq (o :: l) k a Vs := ⟨TN hw hs v h hn.out⟩
theorem jC (hw : Region.wanted o (yielded ops a.tmps) = true) {v : Value} (hs : Sp k = .const v) (h : ∀ w, C w → FactsAt md ops Sp k Vs w → kU P o a w (xF v w)) (hn : GW P md ops C Sp Lq l (k + 1) (a.put o.dst v) Vs) : GW P md ops C Sp Lq (o :: l) k a Vs := ⟨QW hw hs h hn.out⟩
theorem dJ (hw : Region.wanted o (yielded ops a.tmps) = true) {R : Value → World → Prop} (hs : Sp k = .rel R) (h : ∀ w, C w → FactsAt md ops Sp k Vs w → kU P o a w (jZ R w)) (hn : ∀ v, GW P md ops C Sp Lq l (k + 1) (a.put o.dst v) (upd Vs k v)) : GW P md ops C Sp Lq (o :: l) k a Vs := ⟨YK hw hs h fun v => (hn v).out⟩
theorem dN (hw : Region.wanted o (yielded ops a.tmps) = false) (hn : GW P md ops C Sp Lq l (k + 1) (a.put o.dst undef) Vs) : GW P md ops C Sp Lq (o :: l) k a Vs := ⟨TO hw hn.out⟩
theorem aQ {id : Nat} {Q : Exit → Act → World → Prop} {a : Act} {W : World} {l : List Oper} (F : Fz) (n : Nat) (L : List (Nat × Mark)) (hm : P.follows .mixedOrders = true) (hB : Region.lexTailB .any l.toArray n = true)
    (h : GW P .any l.toArray (fun w' => Below W.heap.size W w') (fU W F L) (fun a' Vs => ∀ w', Below W.heap.size W w' → Facts (fU W F L) Vs w' → WL P l.toArray Q (l.drop n) a' w') (l.take n) 0 a (fun _ => none)) : (Code.region id l.toArray true).wp P Q a W :=
  AH F n L hm hB (by
    have key : ∀ (ls : List Oper) (k : Nat) (a : Act) (Vs : eP), wpG P .any l.toArray (fun w' => Below W.heap.size W w') (fU W F L) (fun a' Vs => ∀ w', Below W.heap.size W w' → Facts (fU W F L) Vs w' → WL P l.toArray Q (l.drop n) a' w') ls k a Vs →
        wpG P .any l.toArray (fun w' => Below W.heap.size W w') (fU W F L) (fun a' Vs => ∀ w', Below W.heap.size W w' → Facts (fU W F L) Vs w' → wpList P l.toArray Q (l.drop n) a' w') ls k a Vs := by
      intro ls
      induction ls with
      | nil => intro k a Vs h w' h1 h2; exact (h w' h1 h2).out
      | cons o ls ih =>
        intro k a Vs h
        unfold wpG at h ⊢
        split
        · rename_i hw
          rw [if_pos hw] at h
          obtain ⟨S, hS, hv⟩ := h
          exact ⟨S, hS, fun v hv' => ih _ _ _ (hv v hv')⟩
        · rename_i hw
          rw [if_neg hw] at h
          exact ih _ _ _ h
    exact key _ _ _ _ h.out)
end
def pu (a : Act) (d : Option Tmp) (v : Value) : Act := match d with
  | some i => ⟨⟨a.tmps.toList.set i v⟩, a.defers⟩
  | none => a
theorem AU (a : Act) (d : Option Tmp) (v : Value) : pu a d v = a.put d v := by
  cases d with
  | none => rfl
  | some i =>
    show (⟨⟨a.tmps.toList.set i v⟩, a.defers⟩ : Act) = ⟨a.tmps.setIfInBounds i v, a.defers⟩
    rw [← Array.toList_setIfInBounds]
theorem pq : (∀ (l : List Value) (ds : List Deferred) (i : Tmp) (v : Value), pu ⟨l.toArray, ds⟩ (some i) v = ⟨(l.set i v).toArray, ds⟩) ∧ (∀ (a : Act) (v : Value), pu a none v = a) ∧ (∀ (t : Array Value) (ds : List Deferred) (d : Tmp) (v : Value), (⟨t, ds⟩ : Act).put (some d) v = ⟨t.setIfInBounds d v, ds⟩) ∧ (∀ (a : Act) (v : Value), a.put none v = a) ∧ (∀ (l : List Value) (i : Nat) (v : Value), l.toArray.setIfInBounds i v = (l.set i v).toArray) ∧ (∀ (x : Value) (l : List Value) (n : Nat) (v : Value), (x :: l).set (n + 1) v = x :: l.set n v) ∧ (∀ (x : Value) (l : List Value) (v : Value), (x :: l).set 0 v = v :: l) := ⟨fun _ _ _ _ => rfl, fun _ _ => rfl, pS, pN, pA, pC, pZ⟩
theorem xt : (∀ (K : Act → World → Prop) (Q : Exit → Act → World → Prop) (a : Act) (w : World), Exit.then K Q .ret a w = Q .ret a w) ∧ (∀ (K : Act → World → Prop) (Q : Exit → Act → World → Prop) (a : Act) (w : World), Exit.then K Q .normal a w = K a w) ∧ (∀ (i : Nat) (Q : Exit → Act → World → Prop) (a : Act) (w : World), Exit.inBlock i Q .ret a w = Q .ret a w) ∧ (∀ (i : Nat) (Q : Exit → Act → World → Prop) (a : Act) (w : World), Exit.inBlock i Q .normal a w = Q .normal a w) := ⟨fun _ _ _ _ => rfl, fun _ _ _ _ => rfl, fun _ _ _ _ => rfl, fun _ _ _ _ => rfl⟩
abbrev Zn : Value := .slice none 0 0
abbrev bT : Value := .bool true
abbrev bF : Value := .bool false
abbrev nI (n : Nat) : Value := .int .i64 ((n : Nat) : Int)
abbrev iI (n : Int) : Value := .int .i64 n
abbrev pP (b o : Nat) : Value := .pointer (some ⟨b, o, none⟩)
abbrev aA (b o : Nat) : Option Addr := some ⟨b, o, none⟩
section
variable {P : Program} {ops : Array Oper} {Q : Exit → Act → World → Prop} {a : Act} {w w' : World} {rest : List Oper} {o : Oper} {d : Option Tmp} {t : TypeId} {pos : String} {after : Array Edge} {guard : Option (Nat × Bool)} {x : Operand}
theorem dr (v : Value) (hr : (execOp a.eval o).run P w = .ok (.value v) w') (h : WL P ops Q rest (pu a o.dst v) w') (hw : Region.wanted o (yielded ops a.tmps) = true := by exact rfl) : WL P ops Q (o :: rest) a w := do_ hw v hr (AU .. ▸ h)
theorem da (v : Value) (h : WL P ops Q rest (pu a d v) w) (hw : Region.wanted ⟨d, .assign x, t, pos, after, guard⟩ (yielded ops a.tmps) = true := by exact rfl) (hv : a.eval x = v := by exact rfl) : WL P ops Q (⟨d, .assign x, t, pos, after, guard⟩ :: rest) a w := do_ hw v (hv ▸ pQ _) (AU .. ▸ h)
theorem ef {X : TypeId} {p q : Addr} {f : Nat} (hf : ∀ w, (Instr.fieldAt X (.pointer (some p)) f).run P w = .ok (.pointer (some q)) w) {ρ : Operand → Value} (hx : ρ x = .pointer (some p) := by exact rfl) : (execOp ρ ⟨d, .fieldAddr X x f, t, pos, after, guard⟩).run P w = .ok (.value (.pointer (some q))) w := vV hx hf
theorem sc {w0 : World} {F0 F : Fz} {L : List Blk} {M : List RowP} {n j : Nat} {c : List Value} {T : TypeId} {v : Value} (S : St w0 F0 w F L M) (i : Nat) (h : L[i]? = some ⟨n, c, T⟩ := by exact rfl) (hv : c[j]? = some v := by exact rfl) : w.cell? ⟨n, j, none⟩ = some v := S.cell h hv
theorem sk {id : Nat} {l : List Oper} {c : Code} (h : ∀ K : Act → World → Prop, (∀ a w, c.wp P Q a w → K a w) → WL P l.toArray (Exit.then K Q) l a w) : (Code.seq (.region id l.toArray false) c).wp P Q a w := wp_seq_k fun K hK => aB (h K hK)
theorem wn {K X : Act → World → Prop} (hK : ∀ a w, X a w → K a w) (h : X a w) : WL P ops (Exit.then K Q) [] a w := aH (hK a w h)
end
def ev (a : Act) : Operand → Option Value
  | .tmp i => a.tmps.toList[i]?
  | .const v => some v
  | x => some (a.eval x)
theorem dA {a : Act} {x : Operand} {v : Value} (h : ev a x = some v) : a.eval x = v := by
  cases x with
  | tmp i =>
    simp only [ev, Array.getElem?_toList] at h
    simp [Act.eval, h]
  | const v => exact Option.some.inj h
  | global g => exact Option.some.inj h
  | func f => exact Option.some.inj h
section
variable {P : Program} {ops : Array Oper} {Q : Exit → Act → World → Prop} {a : Act} {w w0 : World} {rest : List Oper} {d : Option Tmp} {t T X Y : TypeId} {pos : String} {after : Array Edge} {guard : Option (Nat × Bool)} {x y z : Operand} {v : Value} {F0 F : Fz} {L : List Blk} {M : List RowP} {b o : Nat} {m n r : Int} {k : IntKind} {c : Bool}
theorem do' {o : Oper} (hw : Region.wanted o (yielded ops a.tmps) = true) (v : Value) (hr : (execOp a.eval o).run P w = .ok (.value v) w) (h : WL P ops Q rest (pu a o.dst v) w) : WL P ops Q (o :: rest) a w := do_ hw v hr (AU .. ▸ h)
theorem dx (h : WL P ops Q rest (pu a d v) w) (hw : Region.wanted ⟨d, .move x, t, pos, after, guard⟩ (yielded ops a.tmps) = true := by exact rfl) (hv : ev a x = some v := by exact rfl) : WL P ops Q (⟨d, .move x, t, pos, after, guard⟩ :: rest) a w := do' hw v (dA hv ▸ gF _) h
theorem dy (h : WL P ops Q rest (pu a d v) w) (hw : Region.wanted ⟨d, .assign x, t, pos, after, guard⟩ (yielded ops a.tmps) = true := by exact rfl) (hv : ev a x = some v := by exact rfl) : WL P ops Q (⟨d, .assign x, t, pos, after, guard⟩ :: rest) a w := do' hw v (dA hv ▸ pQ _) h
theorem dl {cs : List Value} {T' : TypeId} (hN : (isAgg T).run P w = .ok false w) (S : St w0 F0 w F L M) (i : Nat) (h : WL P ops Q rest (pu a d v) w) (hw : Region.wanted ⟨d, .load T x, t, pos, after, guard⟩ (yielded ops a.tmps) = true := by exact rfl) (hx : ev a x = some (.pointer (some ⟨b, o, none⟩)) := by exact rfl) (hL : L[i]? = some ⟨b, cs, T'⟩ := by exact rfl) (hv : cs[o]? = some v := by exact rfl) : WL P ops Q (⟨d, .load T x, t, pos, after, guard⟩ :: rest) a w :=
  do' hw v (aE (dA hx) (aT hN (St.cell S hL hv))) h
theorem dn {E : TypeId} {A : Option Addr} {n c : Nat} (hT : P.underlying T = some (.slice E)) (h : WL P ops Q rest (pu a d (.int .i64 n)) w) (hw : Region.wanted ⟨d, .call ⟨.builtin .len, #[x], #[T]⟩, t, pos, after, guard⟩ (yielded ops a.tmps) = true := by exact rfl) (hx : ev a x = some (.slice A n c) := by exact rfl) : WL P ops Q (⟨d, .call ⟨.builtin .len, #[x], #[T]⟩, t, pos, after, guard⟩ :: rest) a w := do' hw _ (qR hT (dA hx)) h
theorem di {p : Addr} (h : WL P ops Q rest (pu a d (.pointer (some p))) w) (hw : Region.wanted ⟨d, .nilCheck x, t, pos, after, guard⟩ (yielded ops a.tmps) = true := by exact rfl) (hx : ev a x = some (.pointer (some p)) := by exact rfl) : WL P ops Q (⟨d, .nilCheck x, t, pos, after, guard⟩ :: rest) a w := do' hw _ (lP (dA hx)) h
theorem df {p q : Addr} {f : Nat} (hf : ∀ w, (Instr.fieldAt X (.pointer (some p)) f).run P w = .ok (.pointer (some q)) w) (h : WL P ops Q rest (pu a d (.pointer (some q))) w) (hw : Region.wanted ⟨d, .fieldAddr X x f, t, pos, after, guard⟩ (yielded ops a.tmps) = true := by exact rfl) (hx : ev a x = some (.pointer (some p)) := by exact rfl) : WL P ops Q (⟨d, .fieldAddr X x f, t, pos, after, guard⟩ :: rest) a w := do' hw _ (vV (dA hx) hf) h
theorem de {i : Nat} {vs : Array Value} (h : WL P ops Q rest (pu a d v) w) (hw : Region.wanted ⟨d, .extract x i, t, pos, after, guard⟩ (yielded ops a.tmps) = true := by exact rfl) (hx : ev a x = some (.tuple vs) := by exact rfl) (hv : vs[i]? = some v := by exact rfl) : WL P ops Q (⟨d, .extract x i, t, pos, after, guard⟩ :: rest) a w := do' hw v (cA (dA hx) hv) h
theorem dp (h : WL P ops Q rest (pu a d v) w) (hw : Region.wanted ⟨d, .pick x y z, t, pos, after, guard⟩ (yielded ops a.tmps) = true := by exact rfl) (hx : ev a x = some (.bool c) := by exact rfl) (hv : ev a (if c then y else z) = some v := by exact rfl) : WL P ops Q (⟨d, .pick x y z, t, pos, after, guard⟩ :: rest) a w := do' hw v (by have := tG (P := P) (w := w) (d := d) (t := t) (pos := pos) (after := after) (guard := guard) (x := y) (y := z) (dA hx); have e := dA hv; cases c <;> (simp only [Bool.false_eq_true, if_true, if_false] at e this; rw [← e]; exact this)) h
theorem dt (h : WL P ops Q rest (pu a d (.bool (!c))) w) (hw : Region.wanted ⟨d, .unOp .not X x, t, pos, after, guard⟩ (yielded ops a.tmps) = true := by exact rfl) (hx : ev a x = some (.bool c) := by exact rfl) : WL P ops Q (⟨d, .unOp .not X x, t, pos, after, guard⟩ :: rest) a w := do' hw _ (xO (dA hx) rfl) h
theorem fA (h : WL P ops Q rest (pu a d (.bool true)) w) (hw : Region.wanted ⟨d, .binOp .lss X x y Y, t, pos, after, guard⟩ (yielded ops a.tmps) = true := by exact rfl) (hx : ev a x = some (.int k m) := by exact rfl) (hy : ev a y = some (.int k n) := by exact rfl) (e : m < n := by omega) : WL P ops Q (⟨d, .binOp .lss X x y Y, t, pos, after, guard⟩ :: rest) a w := do' hw _ (nS (dA hx) (dA hy) (decide_eq_true e)) h
theorem eM (h : WL P ops Q rest (pu a d (.bool false)) w) (hw : Region.wanted ⟨d, .binOp .lss X x y Y, t, pos, after, guard⟩ (yielded ops a.tmps) = true := by exact rfl) (hx : ev a x = some (.int k m) := by exact rfl) (hy : ev a y = some (.int k n) := by exact rfl) (e : ¬ m < n := by omega) : WL P ops Q (⟨d, .binOp .lss X x y Y, t, pos, after, guard⟩ :: rest) a w := do' hw _ (nS (dA hx) (dA hy) (decide_eq_false e)) h
theorem Eu (h : WL P ops Q rest (pu a d (.bool true)) w) (hw : Region.wanted ⟨d, .binOp .leq X x y Y, t, pos, after, guard⟩ (yielded ops a.tmps) = true := by exact rfl) (hx : ev a x = some (.int k m) := by exact rfl) (hy : ev a y = some (.int k n) := by exact rfl) (e : m ≤ n := by omega) : WL P ops Q (⟨d, .binOp .leq X x y Y, t, pos, after, guard⟩ :: rest) a w := do' hw _ (UB (dA hx) (dA hy) (decide_eq_true e)) h
theorem Ev (h : WL P ops Q rest (pu a d (.bool false)) w) (hw : Region.wanted ⟨d, .binOp .leq X x y Y, t, pos, after, guard⟩ (yielded ops a.tmps) = true := by exact rfl) (hx : ev a x = some (.int k m) := by exact rfl) (hy : ev a y = some (.int k n) := by exact rfl) (e : ¬ m ≤ n := by omega) : WL P ops Q (⟨d, .binOp .leq X x y Y, t, pos, after, guard⟩ :: rest) a w := do' hw _ (UB (dA hx) (dA hy) (decide_eq_false e)) h
theorem pR (h : WL P ops Q rest (pu a d (.bool true)) w) (hw : Region.wanted ⟨d, .binOp .gtr X x y Y, t, pos, after, guard⟩ (yielded ops a.tmps) = true := by exact rfl) (hx : ev a x = some (.int k m) := by exact rfl) (hy : ev a y = some (.int k n) := by exact rfl) (e : n < m := by omega) : WL P ops Q (⟨d, .binOp .gtr X x y Y, t, pos, after, guard⟩ :: rest) a w := do' hw _ (rW (dA hx) (dA hy) (decide_eq_true e)) h
theorem lF (h : WL P ops Q rest (pu a d (.bool false)) w) (hw : Region.wanted ⟨d, .binOp .gtr X x y Y, t, pos, after, guard⟩ (yielded ops a.tmps) = true := by exact rfl) (hx : ev a x = some (.int k m) := by exact rfl) (hy : ev a y = some (.int k n) := by exact rfl) (e : ¬ n < m := by omega) : WL P ops Q (⟨d, .binOp .gtr X x y Y, t, pos, after, guard⟩ :: rest) a w := do' hw _ (rW (dA hx) (dA hy) (decide_eq_false e)) h
theorem UD (h : WL P ops Q rest (pu a d (.bool true)) w) (hw : Region.wanted ⟨d, .binOp .geq X x y Y, t, pos, after, guard⟩ (yielded ops a.tmps) = true := by exact rfl) (hx : ev a x = some (.int k m) := by exact rfl) (hy : ev a y = some (.int k n) := by exact rfl) (e : n ≤ m := by omega) : WL P ops Q (⟨d, .binOp .geq X x y Y, t, pos, after, guard⟩ :: rest) a w := do' hw _ (xN (dA hx) (dA hy) (decide_eq_true e)) h
theorem UE (h : WL P ops Q rest (pu a d (.bool false)) w) (hw : Region.wanted ⟨d, .binOp .geq X x y Y, t, pos, after, guard⟩ (yielded ops a.tmps) = true := by exact rfl) (hx : ev a x = some (.int k m) := by exact rfl) (hy : ev a y = some (.int k n) := by exact rfl) (e : ¬ n ≤ m := by omega) : WL P ops Q (⟨d, .binOp .geq X x y Y, t, pos, after, guard⟩ :: rest) a w := do' hw _ (xN (dA hx) (dA hy) (decide_eq_false e)) h
theorem iR (h : WL P ops Q rest (pu a d (.bool true)) w) (hw : Region.wanted ⟨d, .binOp .eql X x y Y, t, pos, after, guard⟩ (yielded ops a.tmps) = true := by exact rfl) (hx : ev a x = some (.int k m) := by exact rfl) (hy : ev a y = some (.int k n) := by exact rfl) (e : m = n := by omega) : WL P ops Q (⟨d, .binOp .eql X x y Y, t, pos, after, guard⟩ :: rest) a w := do' hw _ (cB (dA hx) (dA hy) (beq_iff_eq.2 e)) h
theorem gL (h : WL P ops Q rest (pu a d (.bool false)) w) (hw : Region.wanted ⟨d, .binOp .eql X x y Y, t, pos, after, guard⟩ (yielded ops a.tmps) = true := by exact rfl) (hx : ev a x = some (.int k m) := by exact rfl) (hy : ev a y = some (.int k n) := by exact rfl) (e : m ≠ n := by omega) : WL P ops Q (⟨d, .binOp .eql X x y Y, t, pos, after, guard⟩ :: rest) a w := do' hw _ (cB (dA hx) (dA hy) (beq_eq_false_iff_ne.2 e)) h
theorem mS (h : WL P ops Q rest (pu a d (.bool true)) w) (hw : Region.wanted ⟨d, .binOp .neq X x y Y, t, pos, after, guard⟩ (yielded ops a.tmps) = true := by exact rfl) (hx : ev a x = some (.int k m) := by exact rfl) (hy : ev a y = some (.int k n) := by exact rfl) (e : m ≠ n := by omega) : WL P ops Q (⟨d, .binOp .neq X x y Y, t, pos, after, guard⟩ :: rest) a w := do' hw _ (cC (dA hx) (dA hy) (bne_iff_ne.2 e)) h
theorem lQ (h : WL P ops Q rest (pu a d (.bool false)) w) (hw : Region.wanted ⟨d, .binOp .neq X x y Y, t, pos, after, guard⟩ (yielded ops a.tmps) = true := by exact rfl) (hx : ev a x = some (.int k m) := by exact rfl) (hy : ev a y = some (.int k n) := by exact rfl) (e : m = n := by omega) : WL P ops Q (⟨d, .binOp .neq X x y Y, t, pos, after, guard⟩ :: rest) a w := do' hw _ (cC (dA hx) (dA hy) (bne_eq_false_iff_eq.2 e)) h
theorem cD (r : Int) (h : WL P ops Q rest (pu a d (.int .i64 r)) w) (hw : Region.wanted ⟨d, .binOp .add X x y Y, t, pos, after, guard⟩ (yielded ops a.tmps) = true := by exact rfl) (hx : ev a x = some (.int .i64 m) := by exact rfl) (hy : ev a y = some (.int .i64 n) := by exact rfl) (e : m + n = r := by omega) (h1 : -9223372036854775808 ≤ r := by omega) (h2 : r ≤ 9223372036854775807 := by omega) : WL P ops Q (⟨d, .binOp .add X x y Y, t, pos, after, guard⟩ :: rest) a w := do' hw _ (fW (dA hx) (dA hy) e h1 h2) h
theorem YR (r : Int) (h : WL P ops Q rest (pu a d (.int .i64 r)) w) (hw : Region.wanted ⟨d, .binOp .sub X x y Y, t, pos, after, guard⟩ (yielded ops a.tmps) = true := by exact rfl) (hx : ev a x = some (.int .i64 m) := by exact rfl) (hy : ev a y = some (.int .i64 n) := by exact rfl) (e : m - n = r := by omega) (h1 : -9223372036854775808 ≤ r := by omega) (h2 : r ≤ 9223372036854775807 := by omega) : WL P ops Q (⟨d, .binOp .sub X x y Y, t, pos, after, guard⟩ :: rest) a w := do' hw _ (uM (dA hx) (dA hy) e h1 h2) h
theorem dR {cs : List Value} {T' : TypeId} {D : TypeDesc} (S : St w0 F0 w F L M) (i : Nat) (hu : P.underlying T = some D) {sz : Nat} (hi : (P.info? T).map (·.size) = some sz) (h : WL P ops Q rest (pu a d (.agg cs.toArray)) w) (hw : Region.wanted ⟨d, .load T x, t, pos, after, guard⟩ (yielded ops a.tmps) = true := by exact rfl) (hx : ev a x = some (.pointer (some ⟨b, 0, none⟩)) := by exact rfl) (hL : L[i]? = some ⟨b, cs, T'⟩ := by exact rfl) (hd : D.isRow = true := by exact rfl) (he : cs.length = sz := by exact rfl) : WL P ops Q (⟨d, .load T x, t, pos, after, guard⟩ :: rest) a w :=
  do' hw _ (aE (dA hx) (kW hu hd (he ▸ hi) (St.range S hL 0 cs (eF 0 (List.take_of_length_le (Nat.le_refl _)))))) h
theorem lR {cs : List Value} {T' : TypeId} {D : TypeDesc} (S : St w0 F0 w F L M) (i : Nat) (hu : P.underlying T = some D) {sz : Nat} (hi : (P.info? T).map (·.size) = some sz) (hL : L[i]? = some ⟨b, cs, T'⟩ := by exact rfl) (hd : D.isRow = true := by exact rfl) (he : cs.length = sz := by exact rfl) : (loadVar T ⟨b, 0, none⟩).run P w = .ok (.agg cs.toArray) w := kW hu hd (he ▸ hi) (St.range S hL 0 cs (eF 0 (List.take_of_length_le (Nat.le_refl _))))
theorem cU {cs : List Value} {D : TypeDesc} (hu : P.underlying T = some D) (hd : D.isRow = true) {sz : Nat} (hi : (P.info? T).map (·.size) = some sz) (hc : w.rangeAt b o cs) (he : cs.length = sz := by exact rfl) : (loadVar T ⟨b, o, none⟩).run P w = .ok (.agg cs.toArray) w := kW hu hd (he ▸ hi) hc
theorem nO {j e : Nat} {oj : Oper} {o : Oper} {b c : Bool} (h : WL P ops Q rest (pu a o.dst undef) w) (hg : o.guard = some (j, b) := by exact rfl) (hj : ops[j]? = some oj := by exact rfl) (hd : oj.dst = some e := by exact rfl) (hv : a.tmps.toList[e]? = some (.bool c) := by exact rfl) (hc : c ≠ b := by decide) : WL P ops Q (o :: rest) a w :=
  doN (bY hg hj hd (by rw [Array.getElem?_toList] at hv; rw [Array.getD_eq_getD_getElem?, hv]; rfl) hc) (AU .. ▸ h)
theorem sA {T : TypeId} {zv : Value} (S : St w0 F0 w F L M) (hz : (zeroValue T).run P w = .ok zv w) (h : ∀ n w', St w0 F0 w' F (⟨n, zv.cells.toList, T⟩ :: L) M → WL P ops Q rest (pu a d (.pointer (some ⟨n, 0, none⟩))) w') (hw : Region.wanted ⟨d, .alloc T, t, pos, after, guard⟩ (yielded ops a.tmps) = true := by exact rfl) : WL P ops Q (⟨d, .alloc T, t, pos, after, guard⟩ :: rest) a w :=
  aZ S (v := fun n => .pointer (some ⟨n, 0, none⟩)) hw (AS hz) fun n w' S' => AU .. ▸ h n w' S'
theorem sW {T' : TypeId} {n j sz : Nat} {cs : List Value} (i : Nat) (S : St w0 F0 w F L M) (hi : (P.info? T).map (·.size) = some sz) (h : ∀ w', St w0 F0 w' F (L.set i ⟨n, bQ cs j v.cells.toList, T'⟩) M → WL P ops Q rest (pu a d undef) w') (hw : Region.wanted ⟨d, .store T x y, t, pos, after, guard⟩ (yielded ops a.tmps) = true := by exact rfl) (hx : ev a x = some (.pointer (some ⟨n, j, none⟩)) := by exact rfl) (hy : ev a y = some v := by exact rfl) (hL : L[i]? = some ⟨n, cs, T'⟩ := by exact rfl)
    (h1 : v.cells.toList.all (·.oneCell') = true := by exact rfl) (hl : Nat.ble (j + v.cells.size) cs.length = true := by exact rfl) (he : v.cells.size = sz := by exact rfl) : WL P ops Q (⟨d, .store T x y, t, pos, after, guard⟩ :: rest) a w :=
  fK S hw (dA hx) (dA hy) hL (he ▸ hi) (by rw [← Array.all_toList]; exact h1) (Nat.le_of_ble_eq_true hl) fun w' S' => AU .. ▸ h w' S'
end
section
variable {P : Program} {ops : Array Oper} {md : Region.Mode} {W w0 : World} {C : World → Prop} {Sp : Nat → OpSpec} {Lq : Act → eP → Prop} {o : Oper} {l : List Oper} {k : Nat} {a : Act} {Vs : eP} {d : Option Tmp} {t X T : TypeId} {pos : String} {after : Array Edge} {guard : Option (Nat × Bool)} {x : Operand} {v : Value} {F0 F : Fz} {L : List Blk} {M : List RowP} {b j : Nat}
theorem gw' (hw : Region.wanted o (yielded ops a.tmps) = true) (hs : Sp k = .pure) (v : Value) (h : ∀ w, C w → PureAt P o a w v) (hn : GW P md ops C Sp Lq l (k + 1) (pu a o.dst v) Vs) : GW P md ops C Sp Lq (o :: l) k a Vs := gQ hw hs v h (AU .. ▸ hn)
theorem gv (v : Value) (h : ∀ w, C w → (execOp a.eval o).run P w = .ok (.value v) w) (hn : GW P md ops C Sp Lq l (k + 1) (pu a o.dst v) Vs) (hw : Region.wanted o (yielded ops a.tmps) = true := by exact rfl) (hs : Sp k = .pure := by exact rfl) : GW P md ops C Sp Lq (o :: l) k a Vs := gw' hw hs v (fun w c => aN (h w c)) hn
theorem gm (hn : GW P md ops C Sp Lq l (k + 1) (pu a d v) Vs) (hw : Region.wanted ⟨d, .move x, t, pos, after, guard⟩ (yielded ops a.tmps) = true := by exact rfl) (hs : Sp k = .pure := by exact rfl) (hv : ev a x = some v := by exact rfl) : GW P md ops C Sp Lq (⟨d, .move x, t, pos, after, guard⟩ :: l) k a Vs := gw' hw hs v (fun w _ => aN (dA hv ▸ gF _)) hn
theorem ga (hn : GW P md ops C Sp Lq l (k + 1) (pu a d v) Vs) (hw : Region.wanted ⟨d, .assign x, t, pos, after, guard⟩ (yielded ops a.tmps) = true := by exact rfl) (hs : Sp k = .pure := by exact rfl) (hv : ev a x = some v := by exact rfl) : GW P md ops C Sp Lq (⟨d, .assign x, t, pos, after, guard⟩ :: l) k a Vs := gw' hw hs v (fun w _ => aN (dA hv ▸ pQ _)) hn
theorem gf {p q : Addr} {f : Nat} (hf : ∀ w, (Instr.fieldAt X (.pointer (some p)) f).run P w = .ok (.pointer (some q)) w) (hn : GW P md ops C Sp Lq l (k + 1) (pu a d (.pointer (some q))) Vs) (hw : Region.wanted ⟨d, .fieldAddr X x f, t, pos, after, guard⟩ (yielded ops a.tmps) = true := by exact rfl) (hs : Sp k = .pure := by exact rfl) (hx : ev a x = some (.pointer (some p)) := by exact rfl) : GW P md ops C Sp Lq (⟨d, .fieldAddr X x f, t, pos, after, guard⟩ :: l) k a Vs := gw' hw hs _ (fun w _ => aN (vV (dA hx) hf)) hn
theorem gi {p : Addr} (hn : GW P md ops C Sp Lq l (k + 1) (pu a d (.pointer (some p))) Vs) (hw : Region.wanted ⟨d, .nilCheck x, t, pos, after, guard⟩ (yielded ops a.tmps) = true := by exact rfl) (hs : Sp k = .pure := by exact rfl) (hx : ev a x = some (.pointer (some p)) := by exact rfl) : GW P md ops C Sp Lq (⟨d, .nilCheck x, t, pos, after, guard⟩ :: l) k a Vs := gw' hw hs _ (fun w _ => aN (lP (dA hx))) hn
theorem gl {cs : List Value} {T' : TypeId} (hN : ∀ w, (isAgg T).run P w = .ok false w) (S : St w0 F0 W F L M) (i : Nat) (hn : GW P md ops (fun w' => Below W.heap.size W w') Sp Lq l (k + 1) (pu a d v) Vs) (hw : Region.wanted ⟨d, .load T x, t, pos, after, guard⟩ (yielded ops a.tmps) = true := by exact rfl) (hs : Sp k = .pure := by exact rfl) (hx : ev a x = some (.pointer (some ⟨b, j, none⟩)) := by exact rfl) (hL : L[i]? = some ⟨b, cs, T'⟩ := by exact rfl) (hv : cs[j]? = some v := by exact rfl) : GW P md ops (fun w' => Below W.heap.size W w') Sp Lq (⟨d, .load T x, t, pos, after, guard⟩ :: l) k a Vs :=
  gw' hw hs v (fun w c => aN (aE (dA hx) (aT (hN w) (St.cell (St.tells S c) hL hv)))) hn
end
section
variable {P : Program} {fn : Func} {R : Ending → World → Prop} {a : Act} {w : World} {v : Value}
theorem gD {tmps : Array Value} {t : Nat} (h : tmps.toList[t]? = some v) : tmps.getD t undef = v := by
  rw [Array.getElem?_toList] at h; rw [Array.getD_eq_getD_getElem?, h]; rfl
theorem bR (hr : (results fn a.tmps).run P w = .ok v w) (hR : R (.returned v) w) (hd : a.defers = [] := by exact rfl) : bodyPost P fn R .ret a w := ⟨hd, v, hr, hR⟩
theorem bE (hr : (results fn a.tmps).run P w = .ok v w) (hR : R (.returned v) w) (hd : a.defers = [] := by exact rfl) : bodyPost P fn R .normal a w := ⟨hd, v, hr, hR⟩
end
section
variable {P : Program} {ρ : Operand → Value} {w : World} {d : Option Tmp} {t : TypeId} {pos : String} {after : Array Edge} {guard : Option (Nat × Bool)} {k : FuncId} {ats : Array TypeId}
theorem fn1 {x : Operand} {u : Value} (hk : (callFunc k #[u]).run P w = .ok (.enter k #[u]) w) (hf : ρ (.func k) = .func (.func k) #[] #[] := by exact rfl) (hx : ρ x = u := by exact rfl) : (execOp ρ ⟨d, .call ⟨.value (.func k), #[x], ats⟩, t, pos, after, guard⟩).run P w = .ok (.enter k #[u]) w := cP (kX hx) hf hk
theorem fn2 {x y : Operand} {u v : Value} (hk : (callFunc k #[u, v]).run P w = .ok (.enter k #[u, v]) w) (hf : ρ (.func k) = .func (.func k) #[] #[] := by exact rfl) (hx : ρ x = u := by exact rfl) (hy : ρ y = v := by exact rfl) : (execOp ρ ⟨d, .call ⟨.value (.func k), #[x, y], ats⟩, t, pos, after, guard⟩).run P w = .ok (.enter k #[u, v]) w := cP (iX hx hy) hf hk
theorem fn3 {x y z : Operand} {u v s : Value} (hk : (callFunc k #[u, v, s]).run P w = .ok (.enter k #[u, v, s]) w) (hf : ρ (.func k) = .func (.func k) #[] #[] := by exact rfl) (hx : ρ x = u := by exact rfl) (hy : ρ y = v := by exact rfl) (hz : ρ z = s := by exact rfl) : (execOp ρ ⟨d, .call ⟨.value (.func k), #[x, y, z], ats⟩, t, pos, after, guard⟩).run P w = .ok (.enter k #[u, v, s]) w := cP (IU hx hy hz) hf hk
theorem fn4 {x y z x' : Operand} {u v s r : Value} (hk : (callFunc k #[u, v, s, r]).run P w = .ok (.enter k #[u, v, s, r]) w) (hf : ρ (.func k) = .func (.func k) #[] #[] := by exact rfl) (hx : ρ x = u := by exact rfl) (hy : ρ y = v := by exact rfl) (hz : ρ z = s := by exact rfl) (hz' : ρ x' = r := by exact rfl) : (execOp ρ ⟨d, .call ⟨.value (.func k), #[x, y, z, x'], ats⟩, t, pos, after, guard⟩).run P w = .ok (.enter k #[u, v, s, r]) w := cP (Fu hx hy hz hz') hf hk
end
class FA (P : Program) (X : TypeId) (f : Nat) (o : outParam Nat) : Prop where
  run : ∀ (b k : Nat) (w : World), (Instr.fieldAt X (.pointer (some ⟨b, k, none⟩)) f).run P w = .ok (.pointer (some ⟨b, k + o, none⟩)) w
class NA (P : Program) (T : TypeId) : Prop where
  run : ∀ w : World, (isAgg T).run P w = .ok false w
class US (P : Program) (T : TypeId) (E : outParam TypeId) : Prop where
  is : P.underlying T = some (.slice E)
section
variable {P : Program} {ops : Array Oper} {Q : Exit → Act → World → Prop} {a a' : Act} {w w0 : World} {l l' rest : List Oper} {d : Option Tmp} {t T X : TypeId} {pos : String} {after : Array Edge} {guard : Option (Nat × Bool)} {x : Operand} {v : Value} {F0 F : Fz} {L : List Blk} {M : List RowP} {b k o f : Nat} {c c' : Code}
theorem dfi [FA P X f o] (h : WL P ops Q rest (pu a d (.pointer (some ⟨b, k + o, none⟩))) w) (hw : Region.wanted ⟨d, .fieldAddr X x f, t, pos, after, guard⟩ (yielded ops a.tmps) = true := by exact rfl) (hx : ev a x = some (.pointer (some ⟨b, k, none⟩)) := by exact rfl) : WL P ops Q (⟨d, .fieldAddr X x f, t, pos, after, guard⟩ :: rest) a w := do' hw _ (vV (dA hx) (FA.run b k)) h
theorem dli [NA P T] {cs : List Value} {T' : TypeId} (h : WL P ops Q rest (pu a d v) w) (hw : Region.wanted ⟨d, .load T x, t, pos, after, guard⟩ (yielded ops a.tmps) = true := by exact rfl) (hx : ev a x = some (.pointer (some ⟨b, o, none⟩)) := by exact rfl) (S : St w0 F0 w F L M := by assumption) (hL : (⟨b, cs, T'⟩ : Blk) ∈ L := by repeat (first | exact .head _ | apply List.Mem.tail)) (hv : cs[o]? = some v := by exact rfl) : WL P ops Q (⟨d, .load T x, t, pos, after, guard⟩ :: rest) a w := by
  obtain ⟨i, hi, e⟩ := List.mem_iff_getElem.1 hL
  exact do' hw v (aE (dA hx) (aT (NA.run w) (St.cell S (by rw [List.getElem?_eq_getElem hi, e]) hv))) h
theorem dni {E : TypeId} [US P T E] {A : Option Addr} {n c : Nat} (h : WL P ops Q rest (pu a d (.int .i64 n)) w) (hw : Region.wanted ⟨d, .call ⟨.builtin .len, #[x], #[T]⟩, t, pos, after, guard⟩ (yielded ops a.tmps) = true := by exact rfl) (hx : ev a x = some (.slice A n c) := by exact rfl) : WL P ops Q (⟨d, .call ⟨.builtin .len, #[x], #[T]⟩, t, pos, after, guard⟩ :: rest) a w := do' hw _ (qR US.is (dA hx)) h
theorem aC (h : WL P ops Q l' a' w) (hr : WL P ops Q l' a' w → WL P ops Q l a w := by
  intro h
  repeat ((first | refine dx ?_ | refine dfi ?_ | refine dli ?_ | refine dy ?_ | refine de ?_ | refine di ?_ | refine dp ?_ | refine dt ?_ | refine nO ?_ | refine dni ?_); (try simp only [pq]))
  exact h) : WL P ops Q l a w := hr h
theorem wlK {K Y : Act → World → Prop} (hK : ∀ a w, Y a w → K a w) (h : Y a w) (e : K a w = Q .normal a w := by exact rfl) : WL P ops Q [] a w := aH (e ▸ hK a w h)
theorem aK (h : c.wp P Q a w) (hx : a.eval x = .bool true := by exact rfl) : (Code.cond x c c').wp P Q a w := wp_cond_true hx h
theorem aG (h : c'.wp P Q a w) (hx : a.eval x = .bool false := by exact rfl) : (Code.cond x c c').wp P Q a w := wp_cond_false hx h
end
theorem cV {α : Type} : (∀ (n : Nat) (a : α) (l : List α), (a :: l).take (n + 1) = a :: l.take n) ∧ (∀ l : List α, l.take 0 = []) := ⟨fun _ _ _ => rfl, fun _ => rfl⟩
theorem cW {α : Type} : (∀ (n : Nat) (a : α) (l : List α), (a :: l).drop (n + 1) = l.drop n) ∧ (∀ l : List α, l.drop 0 = l) := ⟨fun _ _ _ => rfl, fun _ => rfl⟩
abbrev aF := @wp_seq_k
abbrev aO := @wp_ret
abbrev aI := @wp_skip
abbrev aM := @wp_block
abbrev cS := @wp_exit
def usF (u : Nat → Value) : Nat → Nat → List Value → List Value
  | _, 0, t => t
  | k, n + 1, t => u k :: usF u (k + 1) n t
def udF : Nat → List Value → List Value
  | 0, t => t
  | n + 1, t => undef :: udF n t
theorem uzF : (∀ u k t, usF u k 0 t = t) ∧ (∀ u k n t, usF u k (n + 1) t = u k :: usF u (k + 1) n t) ∧ (∀ t, udF 0 t = t) ∧ (∀ n t, udF (n + 1) t = undef :: udF n t) ∧ (∀ (a : Value) (l t : List Value), (a :: l) ++ t = a :: (l ++ t)) ∧ (∀ t : List Value, [] ++ t = t) := ⟨fun _ _ _ => rfl, fun _ _ _ _ => rfl, fun _ => rfl, fun _ _ => rfl, fun _ _ _ => rfl, fun _ => rfl⟩
structure Pl where
  name : By
  key : By
  value : By
  gone : Bool
structure Ft where
  kind : Int
  a : Int
  data : By
theorem Prs.get {F : Fz} {a : Option Addr} {n c : Nat} {l : List Pr} (h : Prs F (.slice a n c) l) {i : Nat} {p : Pr} (hp : l[i]? = some p) :
    ∃ b o, a = some ⟨b, o, none⟩ ∧ ∃ xa xc ya yc, bH F b (o + i * 2) = some (.slice xa p.1.length xc) ∧ bH F b (o + i * 2 + 1) = some (.slice ya p.2.length yc) ∧ Bs F (.slice xa p.1.length xc) p.1 ∧ Bs F (.slice ya p.2.length yc) p.2 := by
 obtain ⟨hi, rfl⟩ := List.getElem?_eq_some_iff.1 hp
 have hn := h.len
 obtain ⟨b, o, e, h1⟩ := Prs.at h (by omega)
 obtain ⟨x, y, c1, c2, r1, r2⟩ := h1 i hi
 obtain ⟨xa, xc, rfl, _⟩ := r1.shape
 obtain ⟨ya, yc, rfl, _⟩ := r2.shape
 exact ⟨b, o, e, xa, xc, ya, yc, c1, c2, r1, r2⟩
theorem Prs.mono {F F' : Fz} {v : Value} {l : List Pr} (h : Prs F v l) (hl : Le F F') : Prs F' v l := Sl.mono PrC.mono h hl
theorem Prs.oneCell {F : Fz} {v : Value} {l : List Pr} (h : Prs F v l) : v.oneCell' = true := by obtain ⟨a, c, rfl, _⟩ := Sl.shape h; rfl
theorem Sl.takeN {α : Type} {k : Nat} {R : Fz → List Value → α → Prop} {F : Fz} {a : Option Addr} {n c : Nat} {l : List α} (h : Sl k R F (.slice a n c) l) {m : Nat} (hm : m ≤ n) : Sl k R F (.slice a m c) (l.take m) := by
 have hn := h.len
 obtain ⟨el, h1, h2, h3⟩ := h
 have h4 := Rw.takeN (by rw [hn] at h1; exact h1) (show m ≤ l.length by omega) k (F := F) (a := a) (c := c) (cs := el.flatten)
 refine ⟨el.take m, ?_, h2.take m, fun x hx => h3 x (List.mem_of_mem_take hx)⟩
 have e : (el.take m).flatten = el.flatten.take (m * k) := by
  clear h1 h2 h4 hn hm
  induction el generalizing m with
  | nil => simp
  | cons x el ih =>
   cases m with
   | zero => simp
   | succ m =>
    have hx := h3 x (by simp)
    simp only [List.take_succ_cons, List.flatten_cons]
    rw [ih (fun y hy => h3 y (by simp [hy])), Nat.add_mul, Nat.one_mul, List.take_append, hx, show m * k + k - k = m * k from by omega, List.take_of_length_le (show x.length ≤ m * k + k by omega)]
 rw [e, List.length_take, Nat.min_eq_left (by omega)]
 exact h4
theorem Sl.dropN {α : Type} {k : Nat} {R : Fz → List Value → α → Prop} {F : Fz} {b o n c : Nat} {l : List α} (h : Sl k R F (.slice (some ⟨b, o, none⟩) n c) l) {m n' c' : Nat} (hm : m ≤ n) (e1 : n - m = n') (e2 : c - m = c') : Sl k R F (.slice (some ⟨b, o + m * k, none⟩) n' c') (l.drop m) := by
 have hn := h.len
 subst e1; subst e2
 obtain ⟨el, h1, h2, h3⟩ := h
 obtain ⟨a', c0, q1, q2, q3, q4, q5⟩ := h1
 cases q1
 have hll := h2.len
 have e : (el.drop m).flatten = el.flatten.drop (m * k) := by
  clear h2 q5 hn hm q2 hll
  induction el generalizing m with
  | nil => simp
  | cons x el ih =>
   cases m with
   | zero => simp
   | succ m =>
    have hx := h3 x (by simp)
    simp only [List.drop_succ_cons, List.flatten_cons]
    rw [ih (fun y hy => h3 y (by simp [hy])), Nat.add_mul, Nat.one_mul, List.drop_append, hx, show m * k + k - k = m * k from by omega, List.drop_of_length_le (show x.length ≤ m * k + k by omega)]
    simp
 refine ⟨el.drop m, ⟨_, _, by rw [List.length_drop, hn], by rw [List.length_drop]; omega, by omega, (fun h => by cases h), ?_⟩, h2.drop m, fun x hx => h3 x (List.mem_of_mem_drop hx)⟩
 rw [e]
 rcases q5 with q5 | ⟨b', o', q6, q7⟩
 left; rw [q5]; simp
 right
 cases q6
 refine ⟨b, o + m * k, rfl, fun j u hu => ?_⟩
 rw [List.getElem?_drop] at hu
 have := q7 _ u hu
 rwa [← Nat.add_assoc] at this
def TnC (F : Fz) (cs : List Value) (p : (By × List Pr)) : Prop := ∃ a0 a1, cs = [a0, a1] ∧ Bs F a0 p.1 ∧ Prs F a1 p.2
theorem TnC.mono (F F' : Fz) (x : List Value) (p : (By × List Pr)) (hl : Le F F') (h : TnC F x p) : TnC F' x p := by
 obtain ⟨a0, a1, rfl, h0, h1⟩ := h
 exact ⟨a0, a1, rfl, h0.mono hl, h1.mono hl⟩
theorem TnC.oneCell {F : Fz} {cs : List Value} {p : (By × List Pr)} (h : TnC F cs p) : ∀ u ∈ cs, u.oneCell' = true := by
 obtain ⟨a0, a1, rfl, h0, h1⟩ := h
 intro u hu
 simp only [List.mem_cons, List.not_mem_nil, or_false] at hu
 rcases hu with rfl | rfl
 ·exact h0.oneCell
 ·exact h1.oneCell
abbrev Tns (F : Fz) (v : Value) (l : List (By × List Pr)) : Prop := Sl 2 TnC F v l
theorem Tns.mono {F F' : Fz} {v : Value} {l : List (By × List Pr)} (h : Tns F v l) (hl : Le F F') : Tns F' v l := Sl.mono TnC.mono h hl
theorem Tns.oneCell {F : Fz} {v : Value} {l : List (By × List Pr)} (h : Tns F v l) : v.oneCell' = true := by obtain ⟨a, c, rfl, _⟩ := Sl.shape h; rfl
theorem Tns.get {F : Fz} {a : Option Addr} {n c : Nat} {l : List (By × List Pr)} (h : Tns F (.slice a n c) l) {i : Nat} {p : (By × List Pr)} (hp : l[i]? = some p) :
    ∃ b o, a = some ⟨b, o, none⟩ ∧ ∃ x0 y0 x1 y1, bH F b (o + i * 2) = some (.slice x0 p.1.length y0) ∧ bH F b (o + i * 2 + 1) = some (.slice x1 p.2.length y1) ∧ Bs F (.slice x0 p.1.length y0) p.1 ∧ Prs F (.slice x1 p.2.length y1) p.2 := by
 obtain ⟨hi, rfl⟩ := List.getElem?_eq_some_iff.1 hp
 have hn := Sl.len h
 obtain ⟨b, o, e, h1⟩ := Sl.at h (by omega) (by omega)
 obtain ⟨cs, q1, ⟨a0, a1, rfl, h0, h1⟩, q3⟩ := h1 i hi
 obtain ⟨x0, y0, rfl, _⟩ := h0.shape
 obtain ⟨x1, y1, rfl, _⟩ := h1.shape
 exact ⟨b, o, e, x0, y0, x1, y1, by have := q3 0 (by simp); simpa [Nat.add_assoc] using this, by have := q3 1 (by simp); simpa [Nat.add_assoc] using this, h0, h1⟩
def TnV (F : Fz) (v : Value) (p : (By × List Pr)) : Prop := ∃ x0 y0 x1 y1, v = .agg #[.slice x0 p.1.length y0, .slice x1 p.2.length y1] ∧ Bs F (.slice x0 p.1.length y0) p.1 ∧ Prs F (.slice x1 p.2.length y1) p.2
theorem TnV.mono {F F' : Fz} {v : Value} {p : (By × List Pr)} (h : TnV F v p) (hl : Le F F') : TnV F' v p := by
 obtain ⟨x0, y0, x1, y1, rfl, h0, h1⟩ := h
 exact ⟨x0, y0, x1, y1, rfl, h0.mono hl, h1.mono hl⟩
def WrC (F : Fz) (cs : List Value) (p : Wr) : Prop := ∃ a0 a1 a2 a3, cs = [a0, a1, a2, a3] ∧ Bs F a0 p.name ∧ Bs F a1 p.key ∧ a2 = .bool p.gone ∧ Bs F a3 p.value
theorem WrC.mono (F F' : Fz) (x : List Value) (p : Wr) (hl : Le F F') (h : WrC F x p) : WrC F' x p := by
 obtain ⟨a0, a1, a2, a3, rfl, h0, h1, h2, h3⟩ := h
 exact ⟨a0, a1, a2, a3, rfl, h0.mono hl, h1.mono hl, h2, h3.mono hl⟩
theorem WrC.oneCell {F : Fz} {cs : List Value} {p : Wr} (h : WrC F cs p) : ∀ u ∈ cs, u.oneCell' = true := by
 obtain ⟨a0, a1, a2, a3, rfl, h0, h1, h2, h3⟩ := h
 intro u hu
 simp only [List.mem_cons, List.not_mem_nil, or_false] at hu
 rcases hu with rfl | rfl | rfl | rfl
 ·exact h0.oneCell
 ·exact h1.oneCell
 ·rw [h2]; rfl
 ·exact h3.oneCell
abbrev Wrs (F : Fz) (v : Value) (l : List Wr) : Prop := Sl 4 WrC F v l
theorem Wrs.mono {F F' : Fz} {v : Value} {l : List Wr} (h : Wrs F v l) (hl : Le F F') : Wrs F' v l := Sl.mono WrC.mono h hl
theorem Wrs.oneCell {F : Fz} {v : Value} {l : List Wr} (h : Wrs F v l) : v.oneCell' = true := by obtain ⟨a, c, rfl, _⟩ := Sl.shape h; rfl
theorem Wrs.get {F : Fz} {a : Option Addr} {n c : Nat} {l : List Wr} (h : Wrs F (.slice a n c) l) {i : Nat} {p : Wr} (hp : l[i]? = some p) :
    ∃ b o, a = some ⟨b, o, none⟩ ∧ ∃ x0 y0 x1 y1 x3 y3, bH F b (o + i * 4) = some (.slice x0 p.name.length y0) ∧ bH F b (o + i * 4 + 1) = some (.slice x1 p.key.length y1) ∧ bH F b (o + i * 4 + 2) = some (.bool p.gone) ∧ bH F b (o + i * 4 + 3) = some (.slice x3 p.value.length y3) ∧ Bs F (.slice x0 p.name.length y0) p.name ∧ Bs F (.slice x1 p.key.length y1) p.key ∧ Bs F (.slice x3 p.value.length y3) p.value := by
 obtain ⟨hi, rfl⟩ := List.getElem?_eq_some_iff.1 hp
 have hn := Sl.len h
 obtain ⟨b, o, e, h1⟩ := Sl.at h (by omega) (by omega)
 obtain ⟨cs, q1, ⟨a0, a1, a2, a3, rfl, h0, h1, h2, h3⟩, q3⟩ := h1 i hi
 obtain ⟨x0, y0, rfl, _⟩ := h0.shape
 obtain ⟨x1, y1, rfl, _⟩ := h1.shape
 subst h2
 obtain ⟨x3, y3, rfl, _⟩ := h3.shape
 exact ⟨b, o, e, x0, y0, x1, y1, x3, y3, by have := q3 0 (by simp); simpa [Nat.add_assoc] using this, by have := q3 1 (by simp); simpa [Nat.add_assoc] using this, by have := q3 2 (by simp); simpa [Nat.add_assoc] using this, by have := q3 3 (by simp); simpa [Nat.add_assoc] using this, h0, h1, h3⟩
def WrV (F : Fz) (v : Value) (p : Wr) : Prop := ∃ x0 y0 x1 y1 x3 y3, v = .agg #[.slice x0 p.name.length y0, .slice x1 p.key.length y1, .bool p.gone, .slice x3 p.value.length y3] ∧ Bs F (.slice x0 p.name.length y0) p.name ∧ Bs F (.slice x1 p.key.length y1) p.key ∧ Bs F (.slice x3 p.value.length y3) p.value
theorem WrV.mono {F F' : Fz} {v : Value} {p : Wr} (h : WrV F v p) (hl : Le F F') : WrV F' v p := by
 obtain ⟨x0, y0, x1, y1, x3, y3, rfl, h0, h1, h2⟩ := h
 exact ⟨x0, y0, x1, y1, x3, y3, rfl, h0.mono hl, h1.mono hl, h2.mono hl⟩
def RdC (F : Fz) (cs : List Value) (p : Rd) : Prop := ∃ a0 a1 a2 a3, cs = [a0, a1, a2, a3] ∧ Bs F a0 p.name ∧ Bs F a1 p.key ∧ a2 = .bool p.wide ∧ Bs F a3 p.last
theorem RdC.mono (F F' : Fz) (x : List Value) (p : Rd) (hl : Le F F') (h : RdC F x p) : RdC F' x p := by
 obtain ⟨a0, a1, a2, a3, rfl, h0, h1, h2, h3⟩ := h
 exact ⟨a0, a1, a2, a3, rfl, h0.mono hl, h1.mono hl, h2, h3.mono hl⟩
theorem RdC.oneCell {F : Fz} {cs : List Value} {p : Rd} (h : RdC F cs p) : ∀ u ∈ cs, u.oneCell' = true := by
 obtain ⟨a0, a1, a2, a3, rfl, h0, h1, h2, h3⟩ := h
 intro u hu
 simp only [List.mem_cons, List.not_mem_nil, or_false] at hu
 rcases hu with rfl | rfl | rfl | rfl
 ·exact h0.oneCell
 ·exact h1.oneCell
 ·rw [h2]; rfl
 ·exact h3.oneCell
abbrev Rds (F : Fz) (v : Value) (l : List Rd) : Prop := Sl 4 RdC F v l
theorem Rds.mono {F F' : Fz} {v : Value} {l : List Rd} (h : Rds F v l) (hl : Le F F') : Rds F' v l := Sl.mono RdC.mono h hl
theorem Rds.oneCell {F : Fz} {v : Value} {l : List Rd} (h : Rds F v l) : v.oneCell' = true := by obtain ⟨a, c, rfl, _⟩ := Sl.shape h; rfl
theorem Rds.get {F : Fz} {a : Option Addr} {n c : Nat} {l : List Rd} (h : Rds F (.slice a n c) l) {i : Nat} {p : Rd} (hp : l[i]? = some p) :
    ∃ b o, a = some ⟨b, o, none⟩ ∧ ∃ x0 y0 x1 y1 x3 y3, bH F b (o + i * 4) = some (.slice x0 p.name.length y0) ∧ bH F b (o + i * 4 + 1) = some (.slice x1 p.key.length y1) ∧ bH F b (o + i * 4 + 2) = some (.bool p.wide) ∧ bH F b (o + i * 4 + 3) = some (.slice x3 p.last.length y3) ∧ Bs F (.slice x0 p.name.length y0) p.name ∧ Bs F (.slice x1 p.key.length y1) p.key ∧ Bs F (.slice x3 p.last.length y3) p.last := by
 obtain ⟨hi, rfl⟩ := List.getElem?_eq_some_iff.1 hp
 have hn := Sl.len h
 obtain ⟨b, o, e, h1⟩ := Sl.at h (by omega) (by omega)
 obtain ⟨cs, q1, ⟨a0, a1, a2, a3, rfl, h0, h1, h2, h3⟩, q3⟩ := h1 i hi
 obtain ⟨x0, y0, rfl, _⟩ := h0.shape
 obtain ⟨x1, y1, rfl, _⟩ := h1.shape
 subst h2
 obtain ⟨x3, y3, rfl, _⟩ := h3.shape
 exact ⟨b, o, e, x0, y0, x1, y1, x3, y3, by have := q3 0 (by simp); simpa [Nat.add_assoc] using this, by have := q3 1 (by simp); simpa [Nat.add_assoc] using this, by have := q3 2 (by simp); simpa [Nat.add_assoc] using this, by have := q3 3 (by simp); simpa [Nat.add_assoc] using this, h0, h1, h3⟩
def RdV (F : Fz) (v : Value) (p : Rd) : Prop := ∃ x0 y0 x1 y1 x3 y3, v = .agg #[.slice x0 p.name.length y0, .slice x1 p.key.length y1, .bool p.wide, .slice x3 p.last.length y3] ∧ Bs F (.slice x0 p.name.length y0) p.name ∧ Bs F (.slice x1 p.key.length y1) p.key ∧ Bs F (.slice x3 p.last.length y3) p.last
theorem RdV.mono {F F' : Fz} {v : Value} {p : Rd} (h : RdV F v p) (hl : Le F F') : RdV F' v p := by
 obtain ⟨x0, y0, x1, y1, x3, y3, rfl, h0, h1, h2⟩ := h
 exact ⟨x0, y0, x1, y1, x3, y3, rfl, h0.mono hl, h1.mono hl, h2.mono hl⟩
def CmC (F : Fz) (cs : List Value) (p : Cm) : Prop := ∃ a0 a1, cs = [a0, a1] ∧ a0 = .int .i64 ((p.turn : Nat) : Int) ∧ Wrs F a1 p.writes
theorem CmC.mono (F F' : Fz) (x : List Value) (p : Cm) (hl : Le F F') (h : CmC F x p) : CmC F' x p := by
 obtain ⟨a0, a1, rfl, h0, h1⟩ := h
 exact ⟨a0, a1, rfl, h0, h1.mono hl⟩
theorem CmC.oneCell {F : Fz} {cs : List Value} {p : Cm} (h : CmC F cs p) : ∀ u ∈ cs, u.oneCell' = true := by
 obtain ⟨a0, a1, rfl, h0, h1⟩ := h
 intro u hu
 simp only [List.mem_cons, List.not_mem_nil, or_false] at hu
 rcases hu with rfl | rfl
 ·rw [h0]; rfl
 ·exact h1.oneCell
abbrev Cms (F : Fz) (v : Value) (l : List Cm) : Prop := Sl 2 CmC F v l
theorem Cms.mono {F F' : Fz} {v : Value} {l : List Cm} (h : Cms F v l) (hl : Le F F') : Cms F' v l := Sl.mono CmC.mono h hl
theorem Cms.oneCell {F : Fz} {v : Value} {l : List Cm} (h : Cms F v l) : v.oneCell' = true := by obtain ⟨a, c, rfl, _⟩ := Sl.shape h; rfl
theorem Cms.get {F : Fz} {a : Option Addr} {n c : Nat} {l : List Cm} (h : Cms F (.slice a n c) l) {i : Nat} {p : Cm} (hp : l[i]? = some p) :
    ∃ b o, a = some ⟨b, o, none⟩ ∧ ∃ x1 y1, bH F b (o + i * 2) = some (.int .i64 ((p.turn : Nat) : Int)) ∧ bH F b (o + i * 2 + 1) = some (.slice x1 p.writes.length y1) ∧ Wrs F (.slice x1 p.writes.length y1) p.writes := by
 obtain ⟨hi, rfl⟩ := List.getElem?_eq_some_iff.1 hp
 have hn := Sl.len h
 obtain ⟨b, o, e, h1⟩ := Sl.at h (by omega) (by omega)
 obtain ⟨cs, q1, ⟨a0, a1, rfl, h0, h1⟩, q3⟩ := h1 i hi
 subst h0
 obtain ⟨x1, y1, rfl, _⟩ := h1.shape
 exact ⟨b, o, e, x1, y1, by have := q3 0 (by simp); simpa [Nat.add_assoc] using this, by have := q3 1 (by simp); simpa [Nat.add_assoc] using this, h1⟩
def CmV (F : Fz) (v : Value) (p : Cm) : Prop := ∃ x1 y1, v = .agg #[.int .i64 ((p.turn : Nat) : Int), .slice x1 p.writes.length y1] ∧ Wrs F (.slice x1 p.writes.length y1) p.writes
theorem CmV.mono {F F' : Fz} {v : Value} {p : Cm} (h : CmV F v p) (hl : Le F F') : CmV F' v p := by
 obtain ⟨x1, y1, rfl, h0⟩ := h
 exact ⟨x1, y1, rfl, h0.mono hl⟩
def StpC (F : Fz) (cs : List Value) (p : Stp) : Prop := ∃ a0 a1 a2, cs = [a0, a1, a2] ∧ a0 = .int .i64 ((p.bit : Nat) : Int) ∧ a1 = .bool p.right ∧ Bs F a2 p.other
theorem StpC.mono (F F' : Fz) (x : List Value) (p : Stp) (hl : Le F F') (h : StpC F x p) : StpC F' x p := by
 obtain ⟨a0, a1, a2, rfl, h0, h1, h2⟩ := h
 exact ⟨a0, a1, a2, rfl, h0, h1, h2.mono hl⟩
theorem StpC.oneCell {F : Fz} {cs : List Value} {p : Stp} (h : StpC F cs p) : ∀ u ∈ cs, u.oneCell' = true := by
 obtain ⟨a0, a1, a2, rfl, h0, h1, h2⟩ := h
 intro u hu
 simp only [List.mem_cons, List.not_mem_nil, or_false] at hu
 rcases hu with rfl | rfl | rfl
 ·rw [h0]; rfl
 ·rw [h1]; rfl
 ·exact h2.oneCell
abbrev Stps (F : Fz) (v : Value) (l : List Stp) : Prop := Sl 3 StpC F v l
theorem Stps.mono {F F' : Fz} {v : Value} {l : List Stp} (h : Stps F v l) (hl : Le F F') : Stps F' v l := Sl.mono StpC.mono h hl
theorem Stps.oneCell {F : Fz} {v : Value} {l : List Stp} (h : Stps F v l) : v.oneCell' = true := by obtain ⟨a, c, rfl, _⟩ := Sl.shape h; rfl
theorem Stps.get {F : Fz} {a : Option Addr} {n c : Nat} {l : List Stp} (h : Stps F (.slice a n c) l) {i : Nat} {p : Stp} (hp : l[i]? = some p) :
    ∃ b o, a = some ⟨b, o, none⟩ ∧ ∃ x2 y2, bH F b (o + i * 3) = some (.int .i64 ((p.bit : Nat) : Int)) ∧ bH F b (o + i * 3 + 1) = some (.bool p.right) ∧ bH F b (o + i * 3 + 2) = some (.slice x2 p.other.length y2) ∧ Bs F (.slice x2 p.other.length y2) p.other := by
 obtain ⟨hi, rfl⟩ := List.getElem?_eq_some_iff.1 hp
 have hn := Sl.len h
 obtain ⟨b, o, e, h1⟩ := Sl.at h (by omega) (by omega)
 obtain ⟨cs, q1, ⟨a0, a1, a2, rfl, h0, h1, h2⟩, q3⟩ := h1 i hi
 subst h0
 subst h1
 obtain ⟨x2, y2, rfl, _⟩ := h2.shape
 exact ⟨b, o, e, x2, y2, by have := q3 0 (by simp); simpa [Nat.add_assoc] using this, by have := q3 1 (by simp); simpa [Nat.add_assoc] using this, by have := q3 2 (by simp); simpa [Nat.add_assoc] using this, h2⟩
def StpV (F : Fz) (v : Value) (p : Stp) : Prop := ∃ x2 y2, v = .agg #[.int .i64 ((p.bit : Nat) : Int), .bool p.right, .slice x2 p.other.length y2] ∧ Bs F (.slice x2 p.other.length y2) p.other
theorem StpV.mono {F F' : Fz} {v : Value} {p : Stp} (h : StpV F v p) (hl : Le F F') : StpV F' v p := by
 obtain ⟨x2, y2, rfl, h0⟩ := h
 exact ⟨x2, y2, rfl, h0.mono hl⟩
def PlC (F : Fz) (cs : List Value) (p : Pl) : Prop := ∃ a0 a1 a2 a3, cs = [a0, a1, a2, a3] ∧ Bs F a0 p.name ∧ Bs F a1 p.key ∧ Bs F a2 p.value ∧ a3 = .bool p.gone
theorem PlC.mono (F F' : Fz) (x : List Value) (p : Pl) (hl : Le F F') (h : PlC F x p) : PlC F' x p := by
 obtain ⟨a0, a1, a2, a3, rfl, h0, h1, h2, h3⟩ := h
 exact ⟨a0, a1, a2, a3, rfl, h0.mono hl, h1.mono hl, h2.mono hl, h3⟩
theorem PlC.oneCell {F : Fz} {cs : List Value} {p : Pl} (h : PlC F cs p) : ∀ u ∈ cs, u.oneCell' = true := by
 obtain ⟨a0, a1, a2, a3, rfl, h0, h1, h2, h3⟩ := h
 intro u hu
 simp only [List.mem_cons, List.not_mem_nil, or_false] at hu
 rcases hu with rfl | rfl | rfl | rfl
 ·exact h0.oneCell
 ·exact h1.oneCell
 ·exact h2.oneCell
 ·rw [h3]; rfl
abbrev Pls (F : Fz) (v : Value) (l : List Pl) : Prop := Sl 4 PlC F v l
theorem Pls.mono {F F' : Fz} {v : Value} {l : List Pl} (h : Pls F v l) (hl : Le F F') : Pls F' v l := Sl.mono PlC.mono h hl
theorem Pls.oneCell {F : Fz} {v : Value} {l : List Pl} (h : Pls F v l) : v.oneCell' = true := by obtain ⟨a, c, rfl, _⟩ := Sl.shape h; rfl
theorem Pls.get {F : Fz} {a : Option Addr} {n c : Nat} {l : List Pl} (h : Pls F (.slice a n c) l) {i : Nat} {p : Pl} (hp : l[i]? = some p) :
    ∃ b o, a = some ⟨b, o, none⟩ ∧ ∃ x0 y0 x1 y1 x2 y2, bH F b (o + i * 4) = some (.slice x0 p.name.length y0) ∧ bH F b (o + i * 4 + 1) = some (.slice x1 p.key.length y1) ∧ bH F b (o + i * 4 + 2) = some (.slice x2 p.value.length y2) ∧ bH F b (o + i * 4 + 3) = some (.bool p.gone) ∧ Bs F (.slice x0 p.name.length y0) p.name ∧ Bs F (.slice x1 p.key.length y1) p.key ∧ Bs F (.slice x2 p.value.length y2) p.value := by
 obtain ⟨hi, rfl⟩ := List.getElem?_eq_some_iff.1 hp
 have hn := Sl.len h
 obtain ⟨b, o, e, h1⟩ := Sl.at h (by omega) (by omega)
 obtain ⟨cs, q1, ⟨a0, a1, a2, a3, rfl, h0, h1, h2, h3⟩, q3⟩ := h1 i hi
 obtain ⟨x0, y0, rfl, _⟩ := h0.shape
 obtain ⟨x1, y1, rfl, _⟩ := h1.shape
 obtain ⟨x2, y2, rfl, _⟩ := h2.shape
 subst h3
 exact ⟨b, o, e, x0, y0, x1, y1, x2, y2, by have := q3 0 (by simp); simpa [Nat.add_assoc] using this, by have := q3 1 (by simp); simpa [Nat.add_assoc] using this, by have := q3 2 (by simp); simpa [Nat.add_assoc] using this, by have := q3 3 (by simp); simpa [Nat.add_assoc] using this, h0, h1, h2⟩
def PlV (F : Fz) (v : Value) (p : Pl) : Prop := ∃ x0 y0 x1 y1 x2 y2, v = .agg #[.slice x0 p.name.length y0, .slice x1 p.key.length y1, .slice x2 p.value.length y2, .bool p.gone] ∧ Bs F (.slice x0 p.name.length y0) p.name ∧ Bs F (.slice x1 p.key.length y1) p.key ∧ Bs F (.slice x2 p.value.length y2) p.value
theorem PlV.mono {F F' : Fz} {v : Value} {p : Pl} (h : PlV F v p) (hl : Le F F') : PlV F' v p := by
 obtain ⟨x0, y0, x1, y1, x2, y2, rfl, h0, h1, h2⟩ := h
 exact ⟨x0, y0, x1, y1, x2, y2, rfl, h0.mono hl, h1.mono hl, h2.mono hl⟩
def FtC (F : Fz) (cs : List Value) (p : Ft) : Prop := ∃ a0 a1 a2, cs = [a0, a1, a2] ∧ a0 = .int .i64 p.kind ∧ a1 = .int .i64 p.a ∧ Bs F a2 p.data
theorem FtC.mono (F F' : Fz) (x : List Value) (p : Ft) (hl : Le F F') (h : FtC F x p) : FtC F' x p := by
 obtain ⟨a0, a1, a2, rfl, h0, h1, h2⟩ := h
 exact ⟨a0, a1, a2, rfl, h0, h1, h2.mono hl⟩
theorem FtC.oneCell {F : Fz} {cs : List Value} {p : Ft} (h : FtC F cs p) : ∀ u ∈ cs, u.oneCell' = true := by
 obtain ⟨a0, a1, a2, rfl, h0, h1, h2⟩ := h
 intro u hu
 simp only [List.mem_cons, List.not_mem_nil, or_false] at hu
 rcases hu with rfl | rfl | rfl
 ·rw [h0]; rfl
 ·rw [h1]; rfl
 ·exact h2.oneCell
abbrev Fts (F : Fz) (v : Value) (l : List Ft) : Prop := Sl 3 FtC F v l
theorem Fts.mono {F F' : Fz} {v : Value} {l : List Ft} (h : Fts F v l) (hl : Le F F') : Fts F' v l := Sl.mono FtC.mono h hl
theorem Fts.oneCell {F : Fz} {v : Value} {l : List Ft} (h : Fts F v l) : v.oneCell' = true := by obtain ⟨a, c, rfl, _⟩ := Sl.shape h; rfl
theorem Fts.get {F : Fz} {a : Option Addr} {n c : Nat} {l : List Ft} (h : Fts F (.slice a n c) l) {i : Nat} {p : Ft} (hp : l[i]? = some p) :
    ∃ b o, a = some ⟨b, o, none⟩ ∧ ∃ x2 y2, bH F b (o + i * 3) = some (.int .i64 p.kind) ∧ bH F b (o + i * 3 + 1) = some (.int .i64 p.a) ∧ bH F b (o + i * 3 + 2) = some (.slice x2 p.data.length y2) ∧ Bs F (.slice x2 p.data.length y2) p.data := by
 obtain ⟨hi, rfl⟩ := List.getElem?_eq_some_iff.1 hp
 have hn := Sl.len h
 obtain ⟨b, o, e, h1⟩ := Sl.at h (by omega) (by omega)
 obtain ⟨cs, q1, ⟨a0, a1, a2, rfl, h0, h1, h2⟩, q3⟩ := h1 i hi
 subst h0
 subst h1
 obtain ⟨x2, y2, rfl, _⟩ := h2.shape
 exact ⟨b, o, e, x2, y2, by have := q3 0 (by simp); simpa [Nat.add_assoc] using this, by have := q3 1 (by simp); simpa [Nat.add_assoc] using this, by have := q3 2 (by simp); simpa [Nat.add_assoc] using this, h2⟩
def FtV (F : Fz) (v : Value) (p : Ft) : Prop := ∃ x2 y2, v = .agg #[.int .i64 p.kind, .int .i64 p.a, .slice x2 p.data.length y2] ∧ Bs F (.slice x2 p.data.length y2) p.data
theorem FtV.mono {F F' : Fz} {v : Value} {p : Ft} (h : FtV F v p) (hl : Le F F') : FtV F' v p := by
 obtain ⟨x2, y2, rfl, h0⟩ := h
 exact ⟨x2, y2, rfl, h0.mono hl⟩
def Pr2V (F : Fz) (v : Value) (p : Pr) : Prop := ∃ x0 y0 x1 y1, v = .agg #[.slice x0 p.1.length y0, .slice x1 p.2.length y1] ∧ Bs F (.slice x0 p.1.length y0) p.1 ∧ Bs F (.slice x1 p.2.length y1) p.2
theorem Pr2V.mono {F F' : Fz} {v : Value} {p : Pr} (h : Pr2V F v p) (hl : Le F F') : Pr2V F' v p := by
 obtain ⟨x0, y0, x1, y1, rfl, h0, h1⟩ := h
 exact ⟨x0, y0, x1, y1, rfl, h0.mono hl, h1.mono hl⟩
def rX {α : Type} (w : World) (F : Fz) (k : Nat) (R : Fz → List Value → α → Prop) (E : Nat) (l : List α) (e : Ending) (w' : World) : Prop := ∃ v F', e = .returned v ∧ Gr w F w' F' ∧ Own k R E w.heap.size w' F' v l
theorem St.addRow {α : Type} {k E : Nat} {R : Fz → List Value → α → Prop} {hR : ∀ F F' x p, Le F F' → R F x p → R F' x p} {w0 w w' : World} {F0 F F' : Fz} {L : List Blk} {M : List RowP} {v : Value} {l : List α} (S : St w0 F0 w F L M) (g : Gr w F w' F') (ho : Own k R E w.heap.size w' F' v l) : St w0 F0 w' F' L (bV k R hR E w0.heap.size v l :: M) := by
 have S' := S.gives g
 have hlt := ho.lt
 have ho' : Own k R E w0.heap.size w' F' v l := ho.rebase fun b hb => Nat.le_trans S.gr.below.size (hlt b hb).1
 refine ⟨S'.gr, S'.blk, fun r hr => ?_, S'.bb, fun r hr x hx => ?_, List.pairwise_cons.2 ⟨fun s hs b hb hc => ?_, S'.rr⟩⟩
 rcases List.mem_cons.1 hr with rfl | hr
 exact ⟨ho', fun b hb => ⟨(hlt b hb).2, ho.out b hb, Nat.le_trans S.gr.below.size (hlt b hb).1⟩⟩
 exact S'.row r hr
 rcases List.mem_cons.1 hr with rfl | hr
 intro e
 have h1 := (hlt _ e).1
 have h2 := S.blk_lt hx
 omega
 exact S'.rb r hr x hx
 have h1 := (hlt b hb).1
 have h2 := ((S.row s hs).2 b hc).1
 omega
theorem nT {P : Program} {ops : Array Oper} {Q : Exit → Act → World → Prop} {a : Act} {rest : List Oper} {o : Oper} {kf : FuncId} {vs : Array Value} {w0 w : World} {F0 F : Fz} {L : List Blk} {M : List RowP} {α : Type} {k E : Nat} {R : Fz → List Value → α → Prop} (hR : ∀ F F' x p, Le F F' → R F x p → R F' x p) {l : List α} (S : St w0 F0 w F L M) (hw : Region.wanted o (yielded ops a.tmps) = true)
    (hr : (execOp a.eval o).run P w = .ok (.enter kf vs) w) (hc : Calls P kf vs w (rX w F k R E l))
    (h : ∀ v w' F', St w0 F0 w' F' L (bV k R hR E w0.heap.size v l :: M) → Le F F' → WL P ops Q rest (a.put o.dst v) w') : WL P ops Q (o :: rest) a w :=
  doC hw hr hc fun e w' ⟨v, F', he, g, ho⟩ => ⟨v, he, h v w' F' (S.addRow g ho) (g.le S.sat)⟩
theorem nU {α : Type} {k E base : Nat} {R : Fz → List Value → α → Prop} {hR : ∀ F F' x p, Le F F' → R F x p → R F' x p} {w0 w : World} {F0 F : Fz} {L : List Blk} {M : List RowP} {v : Value} {l : List α} (S : St w0 F0 w F L M) {i : Nat} (h : M[i]? = some (bV k R hR E base v l)) : ∃ F', Sat w F' ∧ Le F F' ∧ Sl k R F' v l := (S.own h).peek hR S.sat
def SlW {α : Type} (w : World) (F : Fz) (k : Nat) (R : Fz → List Value → α → Prop) (v : Value) (l : List α) : Prop :=
  ∃ (el : List (List Value)) (a : Option Addr) (c : Nat), v = .slice a l.length c ∧ l.length ≤ c ∧ c ≤ maxLen ∧ (a = none → l = [] ∧ c = 0) ∧ AllR (R F) el l ∧ (∀ x ∈ el, x.length = k) ∧
    (el.flatten = [] ∨ ∃ b o, a = some ⟨b, o, none⟩ ∧ ∀ j u, el.flatten[j]? = some u → w.cell? ⟨b, o + j, none⟩ = some u)
section
variable {α : Type} {w w' : World} {F F' : Fz} {k : Nat} {R : Fz → List Value → α → Prop} {v : Value} {l : List α}
theorem Sl.toW (h : Sl k R F v l) (hs : Sat w F) : SlW w F k R v l := by
 obtain ⟨el, ⟨a, c, h1, h2, h3, h4, h5⟩, h6, h7⟩ := h
 refine ⟨el, a, c, h1, h2, h3, fun e => ⟨List.eq_nil_of_length_eq_zero (h4 e).1, (h4 e).2⟩, h6, h7, h5.imp id ?_⟩
 rintro ⟨b, o, e, hc⟩
 exact ⟨b, o, e, fun j u hu => hs.cell (hc j u hu)⟩
theorem Own.toW {E base : Nat} (h : Own k R E base w F v l) : SlW w F k R v l := by
 obtain ⟨el, ⟨e1, e2⟩, h2, h3⟩ := h.ex
 rcases e2 with ⟨rfl, h0⟩ | ⟨g, cap, cur, rfl, hb, hg, q1, q2, q3, q4⟩
 have hl : l = [] := List.eq_nil_of_length_eq_zero h0
 subst hl
 exact ⟨el, none, 0, rfl, by simp, Nat.zero_le _, fun _ => ⟨rfl, rfl⟩, h2, h3, .inl (List.eq_nil_of_length_eq_zero (by simpa using e1))⟩
 refine ⟨el, _, cap, rfl, q1, q2, (fun e => by cases e), h2, h3, .inr ⟨g, 0, rfl, fun j u hu => ?_⟩⟩
 rw [← q4, List.getElem?_take] at hu
 split at hu
 rw [Nat.zero_add]; simp only [World.cell?, hg]; simpa using hu
 cases hu
theorem nB {el : List (List Value)} (h3 : ∀ x ∈ el, x.length = k) (m : Nat) : (el.take m).flatten = el.flatten.take (m * k) := by
 induction el generalizing m with
 | nil => simp
 | cons x el ih =>
  cases m with
  | zero => simp
  | succ m =>
   have hx := h3 x (by simp)
   simp only [List.take_succ_cons, List.flatten_cons]
   rw [ih (fun y hy => h3 y (by simp [hy])), Nat.add_mul, Nat.one_mul, List.take_append, hx, show m * k + k - k = m * k from by omega, List.take_of_length_le (show x.length ≤ m * k + k by omega)]
theorem nC {el : List (List Value)} (h3 : ∀ x ∈ el, x.length = k) (m : Nat) : (el.drop m).flatten = el.flatten.drop (m * k) := by
 induction el generalizing m with
 | nil => simp
 | cons x el ih =>
  cases m with
  | zero => simp
  | succ m =>
   have hx := h3 x (by simp)
   simp only [List.drop_succ_cons, List.flatten_cons]
   rw [ih (fun y hy => h3 y (by simp [hy])), Nat.add_mul, Nat.one_mul, List.drop_append, hx, show m * k + k - k = m * k from by omega, List.drop_of_length_le (show x.length ≤ m * k + k by omega)]
   simp
theorem SlW.takeN {a : Option Addr} {n c m : Nat} (h : SlW w F k R (.slice a n c) l) (hm : m ≤ n) : SlW w F k R (.slice a m c) (l.take m) := by
 obtain ⟨el, a', c', h1, h2, h3, h4, h5, h6, h7⟩ := h
 cases h1
 refine ⟨el.take m, a, c, by rw [List.length_take, Nat.min_eq_left hm], by rw [List.length_take]; omega, h3, fun e => ⟨by rw [(h4 e).1]; simp, (h4 e).2⟩, h5.take m, fun x hx => h6 x (List.mem_of_mem_take hx), ?_⟩
 rw [nB h6]
 refine h7.imp (fun e => by rw [e]; simp) ?_
 rintro ⟨b, o, e, hc⟩
 refine ⟨b, o, e, fun j u hu => hc j u ?_⟩
 rw [List.getElem?_take] at hu
 split at hu
 exact hu
 cases hu
theorem SlW.dropN {a : Option Addr} {n c m : Nat} (h : SlW w F k R (.slice a n c) l) (hm : m ≤ n) : SlW w F k R (.slice (if c = m then a else a.map (·.add (m * k))) (n - m) (c - m)) (l.drop m) := by
 obtain ⟨el, a', c', h1, h2, h3, h4, h5, h6, h7⟩ := h
 cases h1
 refine ⟨el.drop m, _, c - m, by rw [List.length_drop], by rw [List.length_drop]; omega, by omega, fun e => ?_, h5.drop m, fun x hx => h6 x (List.mem_of_mem_drop hx), ?_⟩
 cases a with
 | none => obtain ⟨e1, e2⟩ := h4 rfl; subst e1; simp at hm; simp [e2]
 | some a => split at e <;> cases e
 rw [nC h6]
 by_cases hcm : c = m
 left
 have hll := h5.len
 have : (l.drop m) = [] := List.drop_of_length_le (by omega)
 rw [List.drop_of_length_le]
 rw [eY h6, hll]
 exact Nat.mul_le_mul_right k (by omega)
 rw [if_neg hcm]
 refine h7.imp (fun e => by rw [e]; simp) ?_
 rintro ⟨b, o, e, hc⟩
 subst e
 refine ⟨b, o + m * k, by show some (Addr.add ⟨b, o, none⟩ (m * k)) = _; rw [Addr.add_mid], fun j u hu => ?_⟩
 rw [List.getElem?_drop] at hu
 have := hc _ u hu
 rwa [← Nat.add_assoc] at this
theorem SlW.len {a : Option Addr} {n c : Nat} (h : SlW w F k R (.slice a n c) l) : n = l.length := by
 obtain ⟨el, a', c', h1, _⟩ := h; cases h1; rfl
theorem SlW.get {a : Option Addr} {n c : Nat} (h : SlW w F k R (.slice a n c) l) (hk : 0 < k) {i : Nat} {p : α} (hp : l[i]? = some p) : ∃ b o cs, a = some ⟨b, o, none⟩ ∧ cs.length = k ∧ R F cs p ∧ w.rangeAt b (o + i * k) cs := by
 obtain ⟨el, a', c', h1, h2, h3, h4, h5, h6, h7⟩ := h
 cases h1
 obtain ⟨hi, rfl⟩ := List.getElem?_eq_some_iff.1 hp
 have hll := h5.len
 have hne : el.flatten ≠ [] := by
  intro e
  have := congrArg List.length e
  rw [eY h6, hll] at this
  have := Nat.mul_pos (show 0 < l.length by omega) hk
  simp at *
  omega
 obtain ⟨b, o, e, hc⟩ := h7.resolve_left hne
 refine ⟨b, o, el[i]'(by omega), e, h6 _ (List.getElem_mem _), h5.get i (by omega) hi, fun j u hu => ?_⟩
 have hj : j < k := by
  have := (List.getElem?_eq_some_iff.1 hu).1
  rwa [h6 _ (List.getElem_mem _)] at this
 rw [Nat.add_assoc]
 exact hc _ _ (by rw [lK h6 i (by omega) j hj]; exact hu)
end
section
variable {P : Program} {w0 w w' : World} {F0 F : Fz} {L : List Blk} {M : List RowP} {α : Type} {k base E : Nat} {R : Fz → List Value → α → Prop} {hR : ∀ F F' x p, Le F F' → R F x p → R F' x p} {v : Value} {l : List α}
theorem eG {ops : Array Oper} {Q : Exit → Act → World → Prop} {a : Act} {rest : List Oper} {d : Option Tmp} {t T : TypeId} {x s : Operand} {pos : String} {after : Array Edge} {guard : Option (Nat × Bool)}
    {u : Value} {m : List α} {r : Nat} (S : St w0 F0 w F L M) (hw : Region.wanted ⟨d, .call ⟨.builtin .append, #[s, x], #[T, T]⟩, t, pos, after, guard⟩ (yielded ops a.tmps) = true)
    (inf : TypeInfo) (z : Value) (bytes : Nat) (ht : P.underlying T = some (.slice E)) (hi : P.info? E = some inf) (hz : inf.zero = some z) (hsize : inf.size = k) (hby : inf.bytes = bytes) (hzs : z.cells.size = k) (hsz : 0 < k)
    (hs : a.eval s = v) (hx : a.eval x = u) (hM : M[r]? = some (bV k R hR E base v l)) (hu : SlW w F k R u m) (h1 : ∀ F cs p, R F cs p → ∀ u ∈ cs, u.oneCell' = true)
    (hb : w0.heap.size ≤ base) (hb2 : base ≤ w.heap.size) (a0 : l.length + m.length ≤ maxLen) (hbytes : (l.length + m.length) * bytes ≤ 140737488355328)
    (h : ∀ v' w', St w0 F0 w' F L (M.set r (bV k R hR E base v' (l ++ m))) → (v' = .slice none 0 0 → l = [] ∧ m = []) → WL P ops Q rest (a.put d v') w') : WL P ops Q (⟨d, .call ⟨.builtin .append, #[s, x], #[T, T]⟩, t, pos, after, guard⟩ :: rest) a w := by
 obtain ⟨el, e1, e2, e3⟩ := (S.own hM).ex
 obtain ⟨nl, ad, c, rfl, q2, q3, q4, q5, q6, q7⟩ := hu
 have hnl := q5.len
 have hflat : nl.flatten.length = m.length * k := by rw [eY q6, hnl]
 have hone : ∀ u ∈ nl.flatten, u.oneCell' = true := by
  intro u hu
  obtain ⟨y, hy, huy⟩ := List.mem_flatten.1 hu
  obtain ⟨i, hi', rfl⟩ := List.mem_iff_getElem.1 hy
  exact h1 _ _ _ (q5.get i hi' (by omega)) u huy
 cases ad with
 | none =>
  obtain ⟨hm0, hc0⟩ := q4 rfl
  subst hm0
  have hrun := run_append_owned_none (P := P) w base T t E inf k ht hi v l.length el.flatten e1
  refine do_ hw v ?_ (h v w ?_ (fun e => ?_))
  simp only [execOp, resolve, invoke, builtin, Sem.run_bind, Sem.run_pure, Result.andThen_ok, List.map_toArray, List.map_cons, List.map_nil, hs, hx]
  simp only [List.length_nil, hc0]
  rw [hrun]; rfl
  rw [List.append_nil]
  have : M.set r (bV k R hR E base v l) = M := by
   obtain ⟨h1, h2⟩ := List.getElem?_eq_some_iff.1 hM
   rw [← h2]; simp
  rw [this]; exact S
  refine ⟨?_, rfl⟩
  subst e
  obtain ⟨_, ⟨_, h0⟩ | ⟨_, _, _, h0, _⟩⟩ := e1
  exact List.eq_nil_of_length_eq_zero h0
  cases h0
 | some ad =>
  have hnews : ∀ j u, nl.flatten[j]? = some u → w.cell? (ad.add j) = some u := by
   intro j u hu
   rcases q7 with q7 | ⟨b, o, e, hc⟩
   rw [q7] at hu; simp at hu
   cases e; rw [Addr.add_mid]; exact hc j u hu
  obtain ⟨v', w', hrun, h2, h3, h4, h5⟩ := run_append_own_at (P := P) w base T t E inf z k bytes ht hi hz hsize hby hzs hsz v l.length el.flatten e1 ad m.length c nl.flatten hflat hnews hone a0 hbytes hb2
  have hf : ∀ g, v'.ownBlock = some g → v.ownBlock = some g ∨ w.heap.size ≤ g := by
   intro g hg
   rcases h5 with h5 | h5
   left; rw [← h5]; exact hg
   right; rw [h5] at hg; cases hg; exact Nat.le_refl _
  have hout : ∀ g, v'.ownBlock = some g → F g = none := by
   intro g hg
   rcases h5 with h5 | h5
   exact (S.own hM).out g (by rw [← h5]; exact hg)
   rw [h5] at hg; cases hg; exact S.sat.out (Nat.le_refl _)
  have hown : Own k R E base w' F v' (l ++ m) := by
   refine ⟨⟨el ++ nl, ?_, e2.append q5, fun y hy => ?_⟩, hout⟩
   rw [List.flatten_append, List.length_append]; exact h2
   rcases List.mem_append.1 hy with hy | hy
   exact e3 y hy
   exact q6 y hy
  refine do_ hw v' ?_ (h v' w' (S.grown hM hb h3 hown hf) (fun e => ?_))
  simp only [execOp, resolve, invoke, builtin, Sem.run_bind, Sem.run_pure, Result.andThen_ok, List.map_toArray, List.map_cons, List.map_nil, hs, hx, hrun]
  obtain ⟨h6, h7⟩ := h4.1 e
  subst h6
  obtain ⟨_, ⟨_, h0⟩ | ⟨_, _, _, h0, _⟩⟩ := e1
  exact ⟨List.eq_nil_of_length_eq_zero h0, List.eq_nil_of_length_eq_zero h7⟩
  cases h0
theorem Own.form (h : Own k R E base w F v l) (hn : 0 < l.length) : ∃ g cap, v = .slice (some ⟨g, 0, none⟩) l.length cap ∧ l.length ≤ cap ∧ cap ≤ maxLen ∧ ∃ cur : Array Value, w.heap[g]? = some (.cells cur E (0, 0)) ∧ cur.size = cap * k := by
 obtain ⟨el, ⟨_, ⟨_, h0⟩ | ⟨g, cap, cur, rfl, _, hg, q1, q2, q3, q4⟩⟩, _⟩ := h.ex
 ·omega
 ·exact ⟨g, cap, rfl, q1, q2, cur, hg, q3⟩
theorem IV {xs : List (List Value)} {ps : List α} (h : AllR (R F) xs ps) {i : Nat} {x : List Value} {p : α} (hx : R F x p) : AllR (R F) (xs.set i x) (ps.set i p) := by
 refine AllR.of_get (by simp [h.len]) fun j h1 h2 => ?_
 rw [List.getElem_set, List.getElem_set]
 split
 exact hx
 exact h.get j (by simpa using h1) (by simpa using h2)
theorem yG {el : List (List Value)} (h3 : ∀ x ∈ el, x.length = k) {i : Nat} (hi : i < el.length) {x : List Value} (hx : x.length = k) : (el.set i x).flatten = bQ el.flatten (i * k) x := by
 induction el generalizing i with
 | nil => simp at hi
 | cons y el ih =>
  have hy := h3 y (by simp)
  cases i with
  | zero =>
   unfold bQ
   simp [hx]
   rw [List.drop_append, hy, Nat.sub_self, List.drop_of_length_le (by omega)]
   simp
  | succ i =>
   have ih' := ih (fun z hz => h3 z (by simp [hz])) (i := i) (by simpa using hi)
   simp only [List.set_cons_succ, List.flatten_cons]
   rw [ih']
   unfold bQ
   rw [hx, Nat.add_mul, Nat.one_mul, List.take_append, List.drop_append, hy, show i * k + k - k = i * k from by omega, show i * k + k + k - k = i * k + k from by omega, List.take_of_length_le (show y.length ≤ i * k + k by omega), List.drop_of_length_le (show y.length ≤ i * k + k + k by omega)]
   simp
theorem AV {ops : Array Oper} {Q : Exit → Act → World → Prop} {a : Act} {rest : List Oper} {d : Option Tmp} {t T : TypeId} {x y : Operand} {pos : String} {after : Array Edge} {guard : Option (Nat × Bool)} {r g cap i o n : Nat} {u : Value} {p : α} (S : St w0 F0 w F L M)
    (hw : Region.wanted ⟨d, .store T x y, t, pos, after, guard⟩ (yielded ops a.tmps) = true) (hx : a.eval x = .pointer (some ⟨g, o, none⟩)) (ho : o = i * k) (hy : a.eval y = u) (hM : M[r]? = some (bV k R hR E base (.slice (some ⟨g, 0, none⟩) n cap) l)) (hil : i < l.length)
    (hi : (P.info? T).map (·.size) = some u.cells.size) (h1 : u.cells.all (·.oneCell') = true) (hk : u.cells.size = k) (hp : R F u.cells.toList p) (hb : w0.heap.size ≤ base)
    (h : ∀ w', St w0 F0 w' F L (M.set r (bV k R hR E base (.slice (some ⟨g, 0, none⟩) n cap) (l.set i p))) → WL P ops Q rest (a.put d undef) w') : WL P ops Q (⟨d, .store T x y, t, pos, after, guard⟩ :: rest) a w := by
 obtain ⟨el, ⟨e1, e2⟩, h2, h3⟩ := (S.own hM).ex
 have hll := h2.len
 subst ho
 rcases e2 with ⟨e2, _⟩ | ⟨g', cap', cur, e2, q0, hg, q1, q2, q3, q4⟩
 cases e2
 injection e2 with e2 e2n e2c
 injection e2 with e2
 injection e2 with e2
 subst e2; subst e2n; subst e2c
 have hcl : cur.toList.length = cap * k := by simpa using q3
 have hkl : (i + 1) * k ≤ cap * k := Nat.mul_le_mul_right k (by omega)
 have hle : i * k + u.cells.size ≤ cur.toList.length := by rw [hcl, hk]; rw [Nat.add_mul] at hkl; omega
 have ht : w.there g (i * k) u.cells.size := by
  intro j hj
  have : i * k + j < cur.size := by simp at hle; omega
  exact ⟨by simp [World.cell?, hg, this], by simp [World.frozen?, hg]⟩
 have hst := FX (P := P) (T := T) (v := u) hi ht h1
 have hm0 := (List.getElem?_eq_some_iff.1 hM)
 have hgrown : w.grownBy (w.setCells g (i * k) u.cells.toList) (Value.slice (some ⟨g, 0, none⟩) l.length cap).ownBlock := by
  have hb' := kV (B := 0) (Nat.zero_le g) u.cells.toList (i * k) w w (Below.refl 0 w)
  exact ⟨hb'.os, hb'.tape, hb'.output, hb'.size, fun b hb1 hb2 => fV _ _ _ (fun e => hb2 (by rw [e]; rfl))⟩
 have hheap := mA (n := g) (T := E) (fr := (0, 0)) u.cells.toList (i * k) w cur.toList (by simpa using hg) (by simpa using hle)
 have hown : Own k R E base (w.setCells g (i * k) u.cells.toList) F (.slice (some ⟨g, 0, none⟩) l.length cap) (l.set i p) := by
  refine ⟨⟨el.set i u.cells.toList, ⟨?_, .inr ⟨g, cap, _, by rw [List.length_set], q0, hheap, by rw [List.length_set]; exact q1, q2, ?_, ?_⟩⟩, IV h2 hp, fun y hy => ?_⟩, (S.own hM).out⟩
  rw [eY (fun y hy => ?_), List.length_set, List.length_set, hll]
  rcases List.mem_or_eq_of_mem_set hy with hy | rfl
  exact h3 y hy
  simpa using hk
  rw [List.size_toArray, bZ (by simpa using hle), hcl]
  rw [List.length_set, yG h3 (by omega) (by simpa using hk), ← q4]
  unfold bQ
  have hx' : u.cells.toList.length = k := by simpa using hk
  have hkk : i * k + k ≤ l.length * k := by have := Nat.mul_le_mul_right k (show i + 1 ≤ l.length by omega); rw [Nat.add_mul] at this; omega
  have hcl2 : cap * k ≤ cur.toList.length := by omega
  have hlk : l.length * k ≤ cap * k := Nat.mul_le_mul_right k q1
  apply List.ext_getElem?
  intro j
  simp only [List.getElem?_append, List.getElem?_take, List.getElem?_drop, List.length_take, List.length_append, hx']
  grind
  rcases List.mem_or_eq_of_mem_set hy with hy | rfl
  exact h3 y hy
  simpa using hk
 refine doS hw (vU hx (by rw [hy]; exact hst)) (h _ (S.grown hM hb hgrown hown (fun g' hg' => .inl hg')))
end
end Go.Proofs.YtilgpdpooildcaaGreatDoor
