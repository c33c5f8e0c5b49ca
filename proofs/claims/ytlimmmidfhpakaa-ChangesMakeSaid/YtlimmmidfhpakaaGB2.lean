/- Rules, plain laws and walks: FW FX S2 S3 S4 S5 S6 -/
import Derived.Test.YtlimmmidfhpakaaGB1
import Derived.Deep.MidRow
import Derived.Maps.AppendAt
import Derived.Laws.IdiomCopy
import Derived.ArgAppend
import Derived.Lib.AppendZerosOnto
import Derived.Lib.Overlaps
import Derived.Laws.MakeOwn
namespace Go.Proofs.Ytlimmmidfhpakaa
open Go.RowKit
set_option linter.unusedVariables false

/-- A block of the call's own, known whole. -/
structure Blk where
  n : Nat
  c : List Value
  t : TypeId
/-- What is told of a row (or whatever else) that lies in a block of the call's own. -/
structure RowP where
  ob : Option Nat
  holds : World → Fz → Prop
  stable : ∀ w w' F F', holds w F → (∀ g, ob = some g → w'.heap[g]? = w.heap[g]?) → Le F F' → (∀ g, ob = some g → F' g = none) → holds w' F'
structure St (w0 : World) (F0 : Fz) (w : World) (F : Fz) (L : List Blk) (M : List RowP) : Prop where
  gr : Gr w0 F0 w F
  blk : ∀ x ∈ L, w.heap[x.n]? = some (.cells x.c.toArray x.t (0, 0)) ∧ F x.n = none ∧ w0.heap.size ≤ x.n
  row : ∀ r ∈ M, r.holds w F ∧ ∀ g, r.ob = some g → g < w.heap.size ∧ F g = none ∧ w0.heap.size ≤ g
  bb : L.Pairwise fun x y => x.n ≠ y.n
  rb : ∀ r ∈ M, ∀ x ∈ L, r.ob ≠ some x.n
  rr : M.Pairwise fun r s => ∀ g, r.ob = some g → s.ob ≠ some g
section
variable {w0 w w' : World} {F0 F F' : Fz} {L : List Blk} {M : List RowP}
theorem St.sat (S : St w0 F0 w F L M) : Sat w F := S.gr.sat
theorem St.start (hs : Sat w F) : St w F w F [] [] := ⟨Gr.refl hs, by simp, by simp, by simp, by simp, by simp⟩
theorem St.blk_lt (S : St w0 F0 w F L M) {x : Blk} (h : x ∈ L) : x.n < w.heap.size := (Array.getElem?_eq_some_iff.1 (S.blk x h).1).1
theorem St.mem {i : Nat} {x : Blk} (h : L[i]? = some x) : x ∈ L := by obtain ⟨h1, rfl⟩ := List.getElem?_eq_some_iff.1 h; exact List.getElem_mem h1
theorem St.cell (S : St w0 F0 w F L M) {i : Nat} {n : Nat} {c : List Value} {t : TypeId} (h : L[i]? = some ⟨n, c, t⟩) {j : Nat} {v : Value} (hv : c[j]? = some v) : w.cell? ⟨n, j, none⟩ = some v := by
  have := (S.blk _ (St.mem h)).1
  simp only at this
  simp [World.cell?, this, hv]
theorem St.range (S : St w0 F0 w F L M) {i : Nat} {n : Nat} {c : List Value} {t : TypeId} (h : L[i]? = some ⟨n, c, t⟩) (j : Nat) (cs : List Value) (hv : ∀ (k : Nat) v, cs[k]? = some v → c[j + k]? = some v) : w.rangeAt n j cs := fun k v hk => S.cell h (hv k v hk)
theorem St.fz (S : St w0 F0 w F L M) {b o : Nat} {v : Value} (h : cellF F b o = some v) : w.cell? ⟨b, o, none⟩ = some v := S.sat.cell h
/-- A call that makes something leaves what is the caller's own. -/
theorem St.gives (S : St w0 F0 w F L M) (g : Gr w F w' F') : St w0 F0 w' F' L M :=
  ⟨S.gr.trans g, fun x hx => ⟨(g.below.block _ (S.blk_lt hx)).trans (S.blk x hx).1, g.none (S.blk_lt hx) (S.blk x hx).2.1, (S.blk x hx).2.2⟩,
    fun r hr => ⟨r.stable _ _ _ _ (S.row r hr).1 (fun b hb => g.below.block _ ((S.row r hr).2 b hb).1) (g.le S.sat) (fun b hb => g.none ((S.row r hr).2 b hb).1 ((S.row r hr).2 b hb).2.1),
      fun b hb => ⟨Nat.lt_of_lt_of_le ((S.row r hr).2 b hb).1 g.below.size, g.none ((S.row r hr).2 b hb).1 ((S.row r hr).2 b hb).2.1, ((S.row r hr).2 b hb).2.2⟩⟩, S.bb, S.rb, S.rr⟩
theorem St.tells (S : St w0 F0 w F L M) (h : Below w.heap.size w w') : St w0 F0 w' F L M := S.gives (Gr.of_below S.sat h)
theorem St.alloc (S : St w0 F0 w F L M) (cs : Array Value) (T : TypeId) : St w0 F0 (w.alloc (.cells cs T)) F (⟨w.heap.size, cs.toList, T⟩ :: L) M := by
  have S' := S.gives ((Gr.refl S.sat).new (.cells cs T))
  refine ⟨S'.gr, fun x hx => ?_, S'.row, ?_, fun r hr x hx => ?_, S.rr⟩
  · rcases List.mem_cons.1 hx with rfl | hx
    · exact ⟨heap_new_at w _ rfl, S.sat.out (Nat.le_refl _), S.gr.below.size⟩
    · exact S'.blk x hx
  · refine List.pairwise_cons.2 ⟨fun y hy => ?_, S.bb⟩
    have := S.blk_lt hy
    simp only
    omega
  · rcases List.mem_cons.1 hx with rfl | hx
    · intro e
      have := ((S.row r hr).2 _ e).1
      simp at this
    · exact S.rb r hr x hx
def splice (c : List Value) (j : Nat) (vs : List Value) : List Value := c.take j ++ vs ++ c.drop (j + vs.length)
theorem splice_len {c vs : List Value} {j : Nat} (h : j + vs.length ≤ c.length) : (splice c j vs).length = c.length := by unfold splice; simp; omega
theorem heap_setCells {n : Nat} {T : TypeId} {fr : Nat × Nat} : ∀ (vs : List Value) (j : Nat) (w : World) (c : List Value), w.heap[n]? = some (.cells c.toArray T fr) → j + vs.length ≤ c.length → (w.setCells n j vs).heap[n]? = some (.cells (splice c j vs).toArray T fr)
  | [], j, w, c, h, _ => by simp [World.setCells, splice, h]
  | v :: vs, j, w, c, h, hl => by
    simp only [List.length_cons] at hl
    have h1 : (w.setCell ⟨n, j, none⟩ v).heap[n]? = some (.cells (c.set j v).toArray T fr) := by
      rw [heap_set_at h]; simp
    have h2 := heap_setCells vs (j + 1) (w.setCell ⟨n, j, none⟩ v) (c.set j v) h1 (by simp; omega)
    simp only [World.setCells]
    rw [h2]
    have e : splice (c.set j v) (j + 1) vs = splice c j (v :: vs) := ?_
    · rw [e]
    unfold splice
    apply List.ext_getElem?
    intro m
    simp only [List.getElem?_append, List.getElem?_take, List.length_take, List.length_set, List.length_append, List.getElem?_drop, List.length_cons, List.getElem?_set, List.getElem?_cons]
    grind
theorem heap_setCells_past {n : Nat} : ∀ (vs : List Value) (j : Nat) (w : World) {b : Nat}, b ≠ n → (w.setCells n j vs).heap[b]? = w.heap[b]?
  | [], _, _, _, _ => rfl
  | v :: vs, j, w, b, h => by
    simp only [World.setCells]
    rw [heap_setCells_past vs (j + 1) _ h]
    exact Below.heap_setCell w _ v b h
theorem below_setCells {B n : Nat} (hB : B ≤ n) : ∀ (vs : List Value) (j : Nat) (a w : World), Below B a w → Below B a (w.setCells n j vs)
  | [], _, _, _, h => h
  | v :: vs, j, a, w, h => below_setCells hB vs (j + 1) a _ (h.setCell hB v)
theorem size_setCells {n : Nat} : ∀ (vs : List Value) (j : Nat) (w : World), (w.setCells n j vs).heap.size = w.heap.size
  | [], _, _ => rfl
  | v :: vs, j, w => by simp only [World.setCells]; rw [size_setCells vs]; simp
theorem sat_setCells {n : Nat} (hn : F n = none) : ∀ (vs : List Value) (j : Nat) (w : World), Sat w F → Sat (w.setCells n j vs) F
  | [], _, _, h => h
  | v :: vs, j, w, h => sat_setCells hn vs (j + 1) _ (h.setCell hn v)
theorem St.store (S : St w0 F0 w F L M) {i n : Nat} {c : List Value} {t : TypeId} (h : L[i]? = some ⟨n, c, t⟩) (j : Nat) (vs : List Value) (hl : j + vs.length ≤ c.length) : St w0 F0 (w.setCells n j vs) F (L.set i ⟨n, splice c j vs, t⟩) M := by
  obtain ⟨hi, he⟩ := List.getElem?_eq_some_iff.1 h
  obtain ⟨b1, b2, b3⟩ := S.blk _ (St.mem h)
  simp only at b1 b2 b3
  have hne : ∀ k (hk : k < L.length), k ≠ i → L[k].n ≠ n := by
    intro k hk hki
    have hp := List.pairwise_iff_getElem.1 S.bb
    rcases Nat.lt_or_gt_of_ne hki with h1 | h1
    · have := hp k i hk hi h1; rw [he] at this; exact this
    · have := hp i k hi hk h1; rw [he] at this; exact this.symm
  refine ⟨⟨below_setCells b3 vs j _ _ S.gr.below, S.gr.old, sat_setCells b2 vs j w S.sat⟩, fun x hx => ?_, fun r hr => ?_, ?_, fun r hr x hx => ?_, S.rr⟩
  · obtain ⟨k, hk, rfl⟩ := List.mem_iff_getElem.1 hx
    rw [List.getElem_set]
    split
    · exact ⟨heap_setCells vs j w c b1 hl, b2, b3⟩
    · rename_i hki
      have hk' : k < L.length := by simpa using hk
      have := S.blk _ (List.getElem_mem hk')
      exact ⟨(heap_setCells_past vs j w (hne k hk' (fun e => hki e.symm))).trans this.1, this.2⟩
  · have hr1 := S.row r hr
    have hn : ∀ g, r.ob = some g → g ≠ n := fun g hg e => S.rb r hr _ (St.mem h) (by rw [hg, e])
    exact ⟨r.stable _ _ _ _ hr1.1 (fun g hg => heap_setCells_past vs j w (hn g hg)) (Le.refl _) (fun g hg => (hr1.2 g hg).2.1), fun g hg => ⟨by rw [size_setCells]; exact (hr1.2 g hg).1, (hr1.2 g hg).2⟩⟩
  · refine List.pairwise_iff_getElem.2 fun k m hk hm hkm => ?_
    have hk' : k < L.length := by simpa using hk
    have hm' : m < L.length := by simpa using hm
    have hp := List.pairwise_iff_getElem.1 S.bb k m hk' hm' hkm
    rw [List.getElem_set, List.getElem_set]
    split
    · split
      · omega
      · exact (hne m hm' (by omega)).symm
    · split
      · exact hne k hk' (by omega)
      · exact hp
  · obtain ⟨k, hk, rfl⟩ := List.mem_iff_getElem.1 hx
    have hk' : k < L.length := by simpa using hk
    rw [List.getElem_set]
    split
    · exact S.rb r hr ⟨n, c, t⟩ (St.mem h)
    · exact S.rb r hr _ (List.getElem_mem hk')
theorem St.there (S : St w0 F0 w F L M) {i n : Nat} {c : List Value} {t : TypeId} (h : L[i]? = some ⟨n, c, t⟩) (j k : Nat) (hl : j + k ≤ c.length) : w.there n j k := fun m hm => by
  have := (S.blk _ (St.mem h)).1
  simp only at this
  have hm' : j + m < c.length := by omega
  exact ⟨by simp [World.cell?, this, hm'], by simp [World.frozen?, this]⟩
/-- Fewer blocks are followed. -/
theorem St.drop (S : St w0 F0 w F L M) {L' : List Blk} (h : L'.Sublist L) : St w0 F0 w F L' M := ⟨S.gr, fun x hx => S.blk x (h.subset hx), S.row, S.bb.sublist h, fun r hr x hx => S.rb r hr x (h.subset hx), S.rr⟩
theorem St.dropRow (S : St w0 F0 w F L M) {M' : List RowP} (h : M'.Sublist M) : St w0 F0 w F L M' := ⟨S.gr, S.blk, fun x hx => S.row x (h.subset hx), S.bb, fun r hr => S.rb r (h.subset hr), S.rr.sublist h⟩
/-- A block of the call's own becomes a part of what no more changes. -/
theorem St.freezeBlk (S : St w0 F0 w F L M) {i n : Nat} {c : List Value} {t : TypeId} (h : L[i]? = some ⟨n, c, t⟩) : St w0 F0 w (addF F w n) (L.eraseIdx i) M ∧ Le F (addF F w n) ∧ ∀ j v, c[j]? = some v → cellF (addF F w n) n j = some v := by
  obtain ⟨hi, he⟩ := List.getElem?_eq_some_iff.1 h
  obtain ⟨b1, b2, b3⟩ := S.blk _ (St.mem h)
  simp only at b1 b2 b3
  have hsub := List.eraseIdx_sublist L i
  have hne : ∀ x ∈ L.eraseIdx i, x.n ≠ n := by
    intro x hx
    obtain ⟨k, hk, rfl⟩ := List.mem_iff_getElem.1 hx
    have hp := List.pairwise_iff_getElem.1 S.bb
    rw [List.length_eraseIdx] at hk
    rw [List.getElem_eraseIdx]
    split
    · rename_i hlt
      have := hp k i (by omega) hi hlt
      rw [he] at this; exact this
    · rename_i hge
      rw [if_pos hi] at hk
      have := hp i (k + 1) hi (by omega) (by omega)
      rw [he] at this; exact this.symm
  have hle : Le F (addF F w n) := fun b o hb => addF_le _ _ _ _ _ hb
  refine ⟨⟨S.gr.add b3, fun x hx => ?_, fun r hr => ?_, S.bb.sublist hsub, fun r hr x hx => S.rb r hr x (hsub.subset hx), S.rr⟩, hle, fun j v hv => ?_⟩
  · have := S.blk x (hsub.subset hx)
    exact ⟨this.1, by rw [addF_old (hne x hx)]; exact this.2.1, this.2.2⟩
  · have hr1 := S.row r hr
    have hn : ∀ g, r.ob = some g → addF F w n g = none := fun g hg => by
      rw [addF_old (fun e => S.rb r hr _ (St.mem h) (by rw [hg, e]))]
      exact (hr1.2 g hg).2.1
    exact ⟨r.stable _ _ _ _ hr1.1 (fun _ _ => rfl) hle hn, fun g hg => ⟨(hr1.2 g hg).1, hn g hg, (hr1.2 g hg).2.2⟩⟩
  · unfold cellF addF
    simp [b2, b1, hv]
end
/-- An owned row, as such a thing. -/
def ownP {α : Type} (k : Nat) (R : Fz → List Value → α → Prop) (hR : ∀ F F' x p, Le F F' → R F x p → R F' x p) (E base : Nat) (v : Value) (l : List α) : RowP where
  ob := v.ownBlock
  holds w F := Own k R E base w F v l
  stable := by
    intro w w' F F' h hh hl hn
    obtain ⟨el, ⟨e1, e2⟩, h2, h3⟩ := h.ex
    refine ⟨⟨el, ⟨e1, e2.imp id ?_⟩, h2.imp fun x p => hR _ _ x p hl, h3⟩, hn⟩
    rintro ⟨b, cap, cur, q1, q2, q3, q4⟩
    subst q1
    exact ⟨b, cap, cur, rfl, q2, (hh b rfl).trans q3, q4⟩
section
variable {w0 w w' : World} {F0 F F' : Fz} {L : List Blk} {M : List RowP} {α : Type} {k E base : Nat} {R : Fz → List Value → α → Prop} {hR : ∀ F F' x p, Le F F' → R F x p → R F' x p} {v : Value} {l : List α}
theorem St.own (S : St w0 F0 w F L M) {i : Nat} (h : M[i]? = some (ownP k R hR E base v l)) : Own k R E base w F v l := by
  obtain ⟨h1, h2⟩ := List.getElem?_eq_some_iff.1 h
  have := (S.row _ (List.getElem_mem h1)).1
  rw [h2] at this
  exact this
theorem St.addNil (S : St w0 F0 w F L M) (k : Nat) (R : Fz → List Value → α → Prop) (hR : ∀ F F' x p, Le F F' → R F x p → R F' x p) (E base : Nat) : St w0 F0 w F L (ownP k R hR E base (.slice none 0 0) [] :: M) :=
  ⟨S.gr, S.blk, fun r hr => by
    rcases List.mem_cons.1 hr with rfl | hr
    · exact ⟨Own.nil w F, fun g hg => by cases hg⟩
    · exact S.row r hr, S.bb, fun r hr x hx => by
    rcases List.mem_cons.1 hr with rfl | hr
    · intro h
      cases h
    · exact S.rb r hr x hx, List.pairwise_cons.2 ⟨fun s _ g hg => (by cases hg), S.rr⟩⟩
theorem pairwise_set_row {M : List RowP} {i : Nat} {r' : RowP} (h : M.Pairwise fun r s => ∀ g, r.ob = some g → s.ob ≠ some g) (hi : ∀ k (hk : k < M.length), k ≠ i → ∀ g, r'.ob = some g → M[k].ob ≠ some g) : (M.set i r').Pairwise fun r s => ∀ g, r.ob = some g → s.ob ≠ some g := by
  rw [List.pairwise_iff_getElem] at h ⊢
  intro a b ha hb hab
  simp only [List.length_set] at ha hb
  rw [List.getElem_set, List.getElem_set]
  split
  · split
    · omega
    · intro g hg; exact hi b hb (by omega) g hg
  · split
    · intro g hg hg'; exact hi a ha (by omega) g hg' hg
    · exact h a b ha hb hab
/-- The row has grown. -/
theorem St.grown (S : St w0 F0 w F L M) {i : Nat} (h : M[i]? = some (ownP k R hR E base v l)) (hb : w0.heap.size ≤ base) {v' : Value} {l' : List α} (hg : w.grownBy w' v.ownBlock) (ho : Own k R E base w' F v' l') (hf : ∀ g, v'.ownBlock = some g → v.ownBlock = some g ∨ w.heap.size ≤ g) : St w0 F0 w' F L (M.set i (ownP k R hR E base v' l')) := by
  obtain ⟨hi, he⟩ := List.getElem?_eq_some_iff.1 h
  have hm : ownP k R hR E base v l ∈ M := by rw [← he]; exact List.getElem_mem hi
  have hown := S.own h
  have hr0 := S.row _ hm
  have hlt := ho.lt
  have hother : ∀ k' (hk : k' < M.length), k' ≠ i → ∀ g, v'.ownBlock = some g → M[k'].ob ≠ some g := by
    intro k' hk hne g hg' hc
    rcases hf g hg' with h1 | h1
    · have hp := List.pairwise_iff_getElem.1 S.rr
      rcases Nat.lt_or_gt_of_ne hne with h2 | h2
      · have := hp k' i hk hi h2 g hc; rw [he] at this; exact this h1
      · have := hp i k' hi hk h2 g (by rw [he]; exact h1); exact this hc
    · have := ((S.row _ (List.getElem_mem hk)).2 g hc).1
      omega
  refine ⟨S.gr.grown hg (fun g hg' => ⟨(hr0.2 g hg').2.2, (hr0.2 g hg').2.1⟩), fun x hx => ?_, fun r hr => ?_, S.bb, fun r hr x hx => ?_, pairwise_set_row S.rr hother⟩
  · have := S.blk x hx
    have hne : v.ownBlock ≠ some x.n := S.rb _ hm x hx
    exact ⟨(hg.block _ (S.blk_lt hx) (fun e => hne e.symm)).trans this.1, this.2⟩
  · obtain ⟨k', hk, rfl⟩ := List.mem_iff_getElem.1 hr
    have hk' : k' < M.length := by simpa using hk
    rw [List.getElem_set]
    split
    · refine ⟨ho, fun g hg' => ⟨(hlt g hg').2, ho.out g hg', Nat.le_trans hb (hlt g hg').1⟩⟩
    · rename_i hki
      have hr1 := S.row _ (List.getElem_mem hk')
      have hne : ∀ g, M[k'].ob = some g → v.ownBlock ≠ some g := fun g hg' hv => by
        have hp := List.pairwise_iff_getElem.1 S.rr
        rcases Nat.lt_or_gt_of_ne (fun e => hki e.symm : k' ≠ i) with h2 | h2
        · have := hp k' i hk' hi h2 g hg'; rw [he] at this; exact this hv
        · have := hp i k' hi hk' h2 g (by rw [he]; exact hv); exact this hg'
      exact ⟨RowP.stable _ _ _ _ _ hr1.1 (fun g hg' => hg.block _ (hr1.2 g hg').1 (fun e => hne g hg' e.symm)) (Le.refl _) (fun g hg' => (hr1.2 g hg').2.1), fun g hg' => ⟨Nat.lt_of_lt_of_le (hr1.2 g hg').1 hg.size, (hr1.2 g hg').2⟩⟩
  · obtain ⟨k', hk, rfl⟩ := List.mem_iff_getElem.1 hr
    have hk' : k' < M.length := by simpa using hk
    rw [List.getElem_set]
    split
    · intro e
      rcases hf x.n e with h1 | h1
      · exact S.rb _ hm x hx h1
      · have := S.blk_lt hx; omega
    · exact S.rb _ (List.getElem_mem hk') x hx
/-- The row is done with. -/
theorem St.freeze (S : St w0 F0 w F L M) {i : Nat} (h : M[i]? = some (ownP k R hR E base v l)) (hb : w0.heap.size ≤ base) : ∃ F', St w0 F0 w F' L (M.eraseIdx i) ∧ Le F F' ∧ Sl k R F' v l := by
  obtain ⟨hi, he⟩ := List.getElem?_eq_some_iff.1 h
  have hm : ownP k R hR E base v l ∈ M := by rw [← he]; exact List.getElem_mem hi
  have hown := S.own h
  obtain ⟨el, h1, h2, h3⟩ := hown.ex
  have hsub := List.eraseIdx_sublist M i
  have hother : ∀ r ∈ M.eraseIdx i, ∀ g, v.ownBlock = some g → r.ob ≠ some g := by
    intro r hr g hg hc
    obtain ⟨k', hk, rfl⟩ := List.mem_iff_getElem.1 hr
    have hp := List.pairwise_iff_getElem.1 S.rr
    rw [List.length_eraseIdx, if_pos hi] at hk
    rw [List.getElem_eraseIdx] at hc
    split at hc
    · rename_i hlt
      have := hp k' i (by omega) hi hlt g hc; rw [he] at this; exact this hg
    · have := hp i (k' + 1) hi (by omega) (by omega) g (by rw [he]; exact hg); exact this hc
  rcases h1.2 with ⟨hv, hn⟩ | ⟨g, cap, cur, hv, q2, q3, q4⟩
  · have hl : l = [] := List.eq_nil_of_length_eq_zero hn
    subst hl
    subst hv
    exact ⟨F, ⟨S.gr, S.blk, fun r hr => S.row r (hsub.subset hr), S.bb, fun r hr => S.rb r (hsub.subset hr), S.rr.sublist hsub⟩, Le.refl _, Sl.nil k R F⟩
  · have hle : Le F (addF F w g) := fun b o hb => addF_le _ _ _ _ _ hb
    have hr0 := (S.row _ hm).2 g (by show v.ownBlock = _; rw [hv]; rfl)
    have hF : addF F w g g = some (.cells cur E (0, 0)) := by unfold addF; rw [hr0.2.1]; simp [q3]
    refine ⟨addF F w g, ⟨S.gr.add hr0.2.2, fun x hx => ?_, fun r hr => ?_, S.bb, fun r hr => S.rb r (hsub.subset hr), S.rr.sublist hsub⟩, hle, el, ?_, h2.imp fun x p => hR _ _ x p hle, h3⟩
    · have := S.blk x hx
      have hne : x.n ≠ g := fun e => S.rb _ hm x hx (by show v.ownBlock = _; rw [hv, e]; rfl)
      exact ⟨this.1, by rw [addF_old hne]; exact this.2.1, this.2.2⟩
    · have hr1 := S.row r (hsub.subset hr)
      have hn : ∀ b, r.ob = some b → addF F w g b = none := fun b hb' => by
        rw [addF_old (fun e => hother r hr g (by rw [hv]; rfl) (by rw [hb', e]))]
        exact (hr1.2 b hb').2.1
      exact ⟨r.stable _ _ _ _ hr1.1 (fun _ _ => rfl) hle hn, fun b hb' => ⟨(hr1.2 b hb').1, hn b hb', (hr1.2 b hb').2.2⟩⟩
    · subst hv
      refine Rw.of_cells q4.1 q4.2.1 fun j u hu => ?_
      rw [← q4.2.2.2, List.getElem?_take] at hu
      split at hu
      · unfold cellF; rw [hF, Nat.zero_add]; simpa using hu
      · cases hu
end
end Go.Proofs.Ytlimmmidfhpakaa
namespace Go.Proofs.Ytlimmmidfhpakaa
open Go.RowKit
set_option linter.unusedVariables false
/-- The rules' own words for what is left of a region: no unfolding looks into them. -/
structure WL (P : Program) (ops : Array Oper) (Q : Exit → Act → World → Prop) (l : List Oper) (a : Act) (w : World) : Prop where
  out : wpList P ops Q l a w
structure GW (P : Program) (md : Region.Mode) (ops : Array Oper) (C : World → Prop) (Sp : Nat → OpSpec) (Lq : Act → Vals → Prop) (l : List Oper) (k : Nat) (a : Act) (Vs : Vals) : Prop where
  out : wpG P md ops C Sp Lq l k a Vs
section
variable {P : Program} {ops : Array Oper} {Q : Exit → Act → World → Prop} {a : Act} {w w' : World} {rest : List Oper} {o : Oper}
theorem region_wl {id : Nat} {l : List Oper} (h : WL P l.toArray Q l a w) : (Code.region id l.toArray false).wp P Q a w := wp_region_lit h.out
theorem wl_nil (h : Q .normal a w) : WL P ops Q [] a w := ⟨wpList_nil h⟩
theorem do_ (hw : Region.wanted o (yielded ops a.tmps) = true) (v : Value) (hr : (execOp a.eval o).run P w = .ok (.value v) w') (h : WL P ops Q rest (a.put o.dst v) w') : WL P ops Q (o :: rest) a w := by
  refine ⟨?_⟩
  unfold wpList; rw [if_pos hw]; left; unfold Oper.wp; rw [hr]; exact h.out
theorem doS (hw : Region.wanted o (yielded ops a.tmps) = true) (hr : (execOp a.eval o).run P w = .ok .skip w') (h : WL P ops Q rest (a.put o.dst undef) w') : WL P ops Q (o :: rest) a w := by
  refine ⟨?_⟩
  unfold wpList; rw [if_pos hw]; left; unfold Oper.wp; rw [hr]; exact h.out
theorem doC {k : FuncId} {vs : Array Value} {R : Ending → World → Prop} (hw : Region.wanted o (yielded ops a.tmps) = true) (hr : (execOp a.eval o).run P w = .ok (.enter k vs) w) (hc : Calls P k vs w R)
    (h : ∀ e w', R e w' → ∃ v, e = .returned v ∧ WL P ops Q rest (a.put o.dst v) w') : WL P ops Q (o :: rest) a w := by
  refine ⟨?_⟩
  unfold wpList; rw [if_pos hw]; left; unfold Oper.wp; rw [hr]
  exact hc.mono fun e w' hR => by obtain ⟨v, rfl, hv⟩ := h e w' hR; exact hv.out
theorem doN (hw : Region.wanted o (yielded ops a.tmps) = false) (h : WL P ops Q rest (a.put o.dst undef) w) : WL P ops Q (o :: rest) a w := ⟨wpList_skip hw h.out⟩
end
section
variable {P : Program} {ρ : Operand → Value} {w : World} {d : Option Tmp} {t : TypeId} {pos : String} {after : Array Edge} {guard : Option (Nat × Bool)}
theorem ex_move (x : Operand) : (execOp ρ ⟨d, .move x, t, pos, after, guard⟩).run P w = .ok (.value (ρ x)) w := rfl
theorem ex_assign (x : Operand) : (execOp ρ ⟨d, .assign x, t, pos, after, guard⟩).run P w = .ok (.value (ρ x)) w := rfl
theorem ex_pick {c x y : Operand} {b : Bool} (h : ρ c = .bool b) : (execOp ρ ⟨d, .pick c x y, t, pos, after, guard⟩).run P w = .ok (.value (if b then ρ x else ρ y)) w := by
  simp only [execOp, h]; cases b <;> rfl
theorem ex_extract {x : Operand} {i : Nat} {vs : Array Value} {v : Value} (h : ρ x = .tuple vs) (hv : vs[i]? = some v) : (execOp ρ ⟨d, .extract x i, t, pos, after, guard⟩).run P w = .ok (.value v) w := by
  simp [execOp, h, Instr.extract, hv]
theorem ex_len {x : Operand} {T E : TypeId} {A : Option Addr} {n c : Nat} (hT : P.underlying T = some (.slice E)) (h : ρ x = .slice A n c) : (execOp ρ ⟨d, .call ⟨.builtin .len, #[x], #[T]⟩, t, pos, after, guard⟩).run P w = .ok (.value (.int .i64 n)) w := by
  simp [execOp, resolve, invoke, builtin, Builtin.len_, h, run_underlying hT w]; rfl
theorem ex_load {x : Operand} {T : TypeId} {p : Addr} {v : Value} (h : ρ x = .pointer (some p)) (hl : (loadVar T p).run P w = .ok v w) : (execOp ρ ⟨d, .load T x, t, pos, after, guard⟩).run P w = .ok (.value v) w := by
  simp [execOp, h, Instr.loadAt, Instr.sureAddr, hl]
theorem ex_store {x y : Operand} {T : TypeId} {p : Addr} {w' : World} (h : ρ x = .pointer (some p)) (hl : (storeVar T p (ρ y)).run P w = .ok () w') : (execOp ρ ⟨d, .store T x y, t, pos, after, guard⟩).run P w = .ok .skip w' := by
  simp [execOp, h, Instr.storeAt, Instr.sureAddr, hl]
theorem ex_fn {xs : Array Operand} {ats : Array TypeId} {k : FuncId} {vs : Array Value} (hv : xs.map ρ = vs) (hf : ρ (.func k) = .func (.func k) #[] #[]) (hk : (callFunc k vs).run P w = .ok (.enter k vs) w) : (execOp ρ ⟨d, .call ⟨.value (.func k), xs, ats⟩, t, pos, after, guard⟩).run P w = .ok (.enter k vs) w := by
  subst hv
  have : (#[] : Array Value) ++ Array.map ρ xs ++ #[] = Array.map ρ xs := by simp
  simp only [execOp, resolve, hf, Deferred.ofValue, Sem.run_bind, Sem.run_pure, Result.andThen_ok, invoke, this]
  exact hk
theorem ex_fnv {xs : Array Operand} {ats : Array TypeId} {k : FuncId} {vs : Array Value} {v : Value} (hv : xs.map ρ = vs) (hf : ρ (.func k) = .func (.func k) #[] #[]) (hk : (callFunc k vs).run P w = .ok (.value v) w) : (execOp ρ ⟨d, .call ⟨.value (.func k), xs, ats⟩, t, pos, after, guard⟩).run P w = .ok (.value v) w := by
  subst hv
  have : (#[] : Array Value) ++ Array.map ρ xs ++ #[] = Array.map ρ xs := by simp
  simp only [execOp, resolve, hf, Deferred.ofValue, Sem.run_bind, Sem.run_pure, Result.andThen_ok, invoke, this]
  exact hk
/-- A call through a function value. -/
theorem ex_fv {c : Operand} {xs : Array Operand} {ats : Array TypeId} {k : FuncId} {fs cs vs : Array Value} (hf : ρ c = .func (.func k) fs cs) (hv : fs ++ xs.map ρ ++ cs = vs) (hk : (callFunc k vs).run P w = .ok (.enter k vs) w) : (execOp ρ ⟨d, .call ⟨.value c, xs, ats⟩, t, pos, after, guard⟩).run P w = .ok (.enter k vs) w := by
  subst hv
  simp only [execOp, resolve, hf, Deferred.ofValue, Sem.run_bind, Sem.run_pure, Result.andThen_ok, invoke]
  exact hk
end
section
variable {P : Program} {ρ : Operand → Value} {w : World} {d : Option Tmp} {t : TypeId} {pos : String} {after : Array Edge} {guard : Option (Nat × Bool)} {x y : Operand} {X Y : TypeId} {k : IntKind} {m n : Int}
theorem run_binInt (op : BinOp) (hop : op ≠ .shl ∧ op ≠ .shr) : (binOp op X (.int k m) (.int k n)).run P w = (match op with
    | .add | .sub | .mul => Op.intArith op k m n
    | .quo | .rem => Op.intDiv op k m n
    | .and | .or | .xor | .andNot => Op.intBits op k m n
    | _ => Op.intCmp op m n).run P w := by
  cases op <;> simp [binOp] <;> simp_all
theorem ex_bin {op : BinOp} {v : Value} (hx : ρ x = .int k m) (hy : ρ y = .int k n) (h : (binOp op X (.int k m) (.int k n)).run P w = .ok v w) : (execOp ρ ⟨d, .binOp op X x y Y, t, pos, after, guard⟩).run P w = .ok (.value v) w := by
  have e : (eqGuard op X x y (.int k m) (.int k n)).run P w = .ok () w := by
    unfold eqGuard
    cases op <;> rfl
  simp only [execOp, hx, hy, Sem.run_bind, e, Result.andThen_ok, h, Sem.run_pure]
theorem ex_lss {b : Bool} (hx : ρ x = .int k m) (hy : ρ y = .int k n) (h : decide (m < n) = b) : (execOp ρ ⟨d, .binOp .lss X x y Y, t, pos, after, guard⟩).run P w = .ok (.value (.bool b)) w := by
  subst h; exact ex_bin hx hy (by rw [run_binInt _ (by simp)]; rfl)
theorem ex_leq {b : Bool} (hx : ρ x = .int k m) (hy : ρ y = .int k n) (h : decide (m ≤ n) = b) : (execOp ρ ⟨d, .binOp .leq X x y Y, t, pos, after, guard⟩).run P w = .ok (.value (.bool b)) w := by
  subst h; exact ex_bin hx hy (by rw [run_binInt _ (by simp)]; rfl)
theorem ex_gtr {b : Bool} (hx : ρ x = .int k m) (hy : ρ y = .int k n) (h : decide (n < m) = b) : (execOp ρ ⟨d, .binOp .gtr X x y Y, t, pos, after, guard⟩).run P w = .ok (.value (.bool b)) w := by
  subst h; exact ex_bin hx hy (by rw [run_binInt _ (by simp)]; rfl)
theorem ex_geq {b : Bool} (hx : ρ x = .int k m) (hy : ρ y = .int k n) (h : decide (n ≤ m) = b) : (execOp ρ ⟨d, .binOp .geq X x y Y, t, pos, after, guard⟩).run P w = .ok (.value (.bool b)) w := by
  subst h; exact ex_bin hx hy (by rw [run_binInt _ (by simp)]; rfl)
theorem ex_eql {b : Bool} (hx : ρ x = .int k m) (hy : ρ y = .int k n) (h : (m == n) = b) : (execOp ρ ⟨d, .binOp .eql X x y Y, t, pos, after, guard⟩).run P w = .ok (.value (.bool b)) w := by
  subst h; exact ex_bin hx hy (by rw [run_binInt _ (by simp)]; rfl)
theorem ex_neq {b : Bool} (hx : ρ x = .int k m) (hy : ρ y = .int k n) (h : (m != n) = b) : (execOp ρ ⟨d, .binOp .neq X x y Y, t, pos, after, guard⟩).run P w = .ok (.value (.bool b)) w := by
  subst h; exact ex_bin hx hy (by rw [run_binInt _ (by simp)]; rfl)
theorem wrap64_in {z : Int} (h1 : -9223372036854775808 ≤ z) (h2 : z ≤ 9223372036854775807) : IntKind.i64.wrap z = z := IntWalk.i64_in z ⟨h1, h2⟩
theorem ex_add {r : Int} (hx : ρ x = .int .i64 m) (hy : ρ y = .int .i64 n) (e : m + n = r) (h1 : -9223372036854775808 ≤ r) (h2 : r ≤ 9223372036854775807) : (execOp ρ ⟨d, .binOp .add X x y Y, t, pos, after, guard⟩).run P w = .ok (.value (.int .i64 r)) w := by
  subst e
  refine ex_bin hx hy ?_
  rw [run_binInt _ (by simp)]
  show Result.ok (Value.int .i64 (IntKind.i64.wrap (m + n))) w = _
  rw [wrap64_in h1 h2]
theorem ex_sub {r : Int} (hx : ρ x = .int .i64 m) (hy : ρ y = .int .i64 n) (e : m - n = r) (h1 : -9223372036854775808 ≤ r) (h2 : r ≤ 9223372036854775807) : (execOp ρ ⟨d, .binOp .sub X x y Y, t, pos, after, guard⟩).run P w = .ok (.value (.int .i64 r)) w := by
  subst e
  refine ex_bin hx hy ?_
  rw [run_binInt _ (by simp)]
  show Result.ok (Value.int .i64 (IntKind.i64.wrap (m - n))) w = _
  rw [wrap64_in h1 h2]
theorem ex_not {b c : Bool} (hx : ρ x = .bool b) (h : (!b) = c) : (execOp ρ ⟨d, .unOp .not X x, t, pos, after, guard⟩).run P w = .ok (.value (.bool c)) w := by
  subst h; simp only [execOp, hx]; rfl
theorem ex_eqlB {b c r : Bool} (hX : P.underlying X = some .bool) (hx : ρ x = .bool b) (hy : ρ y = .bool c) (h : (b == c) = r) : (execOp ρ ⟨d, .binOp .eql X x y Y, t, pos, after, guard⟩).run P w = .ok (.value (.bool r)) w := by
  subst h
  have e : (binOp .eql X (.bool b) (.bool c)).run P w = .ok (.bool (b == c)) w := by
    simp only [binOp, Sem.run_bind, run_equal_bool w X b c hX, Result.andThen_ok, Sem.run_pure]
  have e2 : (eqGuard .eql X x y (.bool b) (.bool c)).run P w = .ok () w := rfl
  simp only [execOp, hx, hy, Sem.run_bind, e2, Result.andThen_ok, e, Sem.run_pure]
/-- Element i of a slice. -/
theorem ex_at {T : TypeId} {E : TypeId} {b o l c : Nat} {i : Nat} {sz q : Nat} (hT : P.underlying T = some (.slice E)) (hs : (sizeOf E).run P w = .ok sz w) {A : Option Addr} (hx : ρ x = .slice A l c) (hA : A = some ⟨b, o, none⟩) (hy : ρ y = .int .i64 i) (hi : i < l) (hq : o + i * sz = q) :
    (execOp ρ ⟨d, .indexAddr T x y, t, pos, after, guard⟩).run P w = .ok (.value (.pointer (some ⟨b, q, none⟩))) w := by
  subst hq
  subst hA
  have hadd : (⟨b, o, none⟩ : Addr).add (i * sz) = ⟨b, o + i * sz, none⟩ := Addr.add_mid b o (i * sz)
  have hlt : (0 : Int) ≤ (i : Int) ∧ (i : Int) < (l : Int) := by omega
  simp [execOp, hx, hy, Instr.indexAt, asIntOf, Sem.run_bind, run_underlying hT w, hs, hadd]
  intro h; omega
/-- A field of what lies at an address. -/
theorem ex_field {p q : Addr} {f : Nat} (hx : ρ x = .pointer (some p)) (hf : ∀ w, (Instr.fieldAt X (.pointer (some p)) f).run P w = .ok (.pointer (some q)) w) : (execOp ρ ⟨d, .fieldAddr X x f, t, pos, after, guard⟩).run P w = .ok (.value (.pointer (some q))) w := by
  simp [execOp, hx, hf]
theorem ex_build {parts : Array (Nat × Operand)} {cells : Array Value} {ps : Array (Nat × Value)} (hp : (parts.map fun (i, x) => (i, ρ x)) = ps) (h : (Instr.build X ps).run P w = .ok (.agg cells) w) : (execOp ρ ⟨d, .build X parts, t, pos, after, guard⟩).run P w = .ok (.value (.agg cells)) w := by
  subst hp
  simp only [execOp, Sem.run_bind, h, Result.andThen_ok, Sem.run_pure]
/-- x[l:h] -/
theorem ex_slice {E : TypeId} {A : Option Addr} {n c : Nat} {lo hi : Option Operand} {l h : Nat} {sz : Nat} {v : Value} (hX : P.underlying X = some (.slice E)) (hx : ρ x = .slice A n c) (hsz : (sizeOf E).run P w = .ok sz w)
    (hl : (lo = none ∧ l = 0) ∨ ∃ q, lo = some q ∧ ρ q = .int .i64 l) (hh : (hi = none ∧ h = n) ∨ ∃ q, hi = some q ∧ ρ q = .int .i64 h) (h1 : l ≤ h) (h2 : h ≤ c)
    (hv : v = .slice (if c = l then A else A.map (·.add (l * sz))) (h - l) (c - l)) : (execOp ρ ⟨d, .slice X x lo hi none, t, pos, after, guard⟩).run P w = .ok (.value v) w := by
  subst hv
  have hb : (Instr.sliceBounds true n c (lo.map ρ) (hi.map ρ) none).run P w = .ok (l, h, c) w := by
    have b1 : ∀ (z y : Nat) (code : BoundsCode), z ≤ y → (Instr.sliceBound (.int .i64 z) y code).run P w = .ok z w := by
      intro z y code hzy
      have : (0 : Int) ≤ (z : Int) ∧ (z : Int) ≤ (y : Int) := by omega
      simp [Instr.sliceBound, asIntOf, this]
    rcases hl with ⟨rfl, rfl⟩ | ⟨q, rfl, hq⟩ <;> rcases hh with ⟨rfl, rfl⟩ | ⟨q', rfl, hq'⟩
    · simp [Instr.sliceBounds]
    · simp [Instr.sliceBounds, hq', b1 _ _ _ h2]
    · simp [Instr.sliceBounds, hq, b1 _ _ _ h1]
    · simp [Instr.sliceBounds, hq', hq, b1 _ _ _ h2, b1 _ _ _ h1]
  have hs : (Instr.sliceAt X (.slice A n c) (lo.map ρ) (hi.map ρ) none).run P w = .ok (.slice (if c = l then A else A.map (·.add (l * sz))) (h - l) (c - l)) w := by
    simp [Instr.sliceAt, Sem.run_bind, run_underlying hX w, Instr.slice, hb, hsz]
  simp [execOp, hx, hs]
end
/-! Memory. -/
section
variable {P : Program} {w0 w w' : World} {F0 F : Fz} {L : List Blk} {M : List RowP}
theorem load1 {T : TypeId} {b o : Nat} {v : Value} (hT : (isAgg T).run P w = .ok false w) (hc : w.cell? ⟨b, o, none⟩ = some v) : (loadVar T ⟨b, o, none⟩).run P w = .ok v w := by
  simp [loadVar, Sem.run_bind, hT, hc]
theorem loadN {T : TypeId} {b o : Nat} {cs : List Value} {d : TypeDesc} (hu : P.underlying T = some d) (hd : d.isRow = true) (hi : (P.info? T).map (·.size) = some cs.length) (hc : w.rangeAt b o cs) : (loadVar T ⟨b, o, none⟩).run P w = .ok (.agg cs.toArray) w := run_loadVar_mid w b o T cs d hc hu hd hi
theorem storeV {T : TypeId} {b o : Nat} {v : Value} (hi : (P.info? T).map (·.size) = some v.cells.size) (ht : w.there b o v.cells.size) (h1 : v.cells.all (·.oneCell') = true) : (storeVar T ⟨b, o, none⟩ v).run P w = .ok () (w.setCells b o v.cells.toList) := by
  have := run_storeVar_mid w b o T v.cells ht hi h1
  unfold storeVar at *
  exact this
/-- A new block. -/
theorem ex_alloc {ρ : Operand → Value} {d : Option Tmp} {t T : TypeId} {pos : String} {after : Array Edge} {guard : Option (Nat × Bool)} {z : Value} (hz : (zeroValue T).run P w = .ok z w) :
    (execOp ρ ⟨d, .alloc T, t, pos, after, guard⟩).run P w = .ok (.value (.pointer (some ⟨w.heap.size, 0, none⟩))) (w.alloc (.cells z.cells T)) := by
  simp only [execOp, Instr.alloc, Sem.run_bind, hz, Result.andThen_ok]
  rfl
theorem ex_box {ρ : Operand → Value} {d : Option Tmp} {t T : TypeId} {x : Operand} {pos : String} {after : Array Edge} {guard : Option (Nat × Bool)} {v : Value} (hx : ρ x = v) :
    (execOp ρ ⟨d, .box T x, t, pos, after, guard⟩).run P w = .ok (.value (.pointer (some ⟨w.heap.size, 0, none⟩))) (w.alloc (.cells v.cells T)) := by
  subst hx
  simp only [execOp, Instr.box, Sem.run_bind]
  rfl
theorem ex_lit {ρ : Operand → Value} {d : Option Tmp} {t T E : TypeId} {n : Nat} {parts : Array (Nat × Operand)} {ps : Array (Nat × Value)} {pos : String} {after : Array Edge} {guard : Option (Nat × Bool)} {cells : Array Value} (hp : (parts.map fun (i, x) => (i, ρ x)) = ps)
    (h : ∀ w, (Instr.buildSlice T n ps).run P w = .ok (.slice (some ⟨w.heap.size, 0, none⟩) n n) (w.alloc (.cells cells E))) :
    (execOp ρ ⟨d, .buildSlice T n parts, t, pos, after, guard⟩).run P w = .ok (.value (.slice (some ⟨w.heap.size, 0, none⟩) n n)) (w.alloc (.cells cells E)) := by
  subst hp
  simp only [execOp, Sem.run_bind, h, Result.andThen_ok, Sem.run_pure]
/-- The step that makes a block of the call's own. -/
theorem stNew {ops : Array Oper} {Q : Exit → Act → World → Prop} {a : Act} {rest : List Oper} {o : Oper} {cs : Array Value} {T : TypeId} {v : Nat → Value} (S : St w0 F0 w F L M) (hw : Region.wanted o (yielded ops a.tmps) = true)
    (hr : (execOp a.eval o).run P w = .ok (.value (v w.heap.size)) (w.alloc (.cells cs T)))
    (h : ∀ n w', St w0 F0 w' F (⟨n, cs.toList, T⟩ :: L) M → WL P ops Q rest (a.put o.dst (v n)) w') : WL P ops Q (o :: rest) a w :=
  do_ hw _ hr (h _ _ (S.alloc cs T))
theorem stStore {ops : Array Oper} {Q : Exit → Act → World → Prop} {a : Act} {rest : List Oper} {d : Option Tmp} {t T T' : TypeId} {x y : Operand} {pos : String} {after : Array Edge} {guard : Option (Nat × Bool)} {i n j : Nat} {c : List Value} {v : Value} (S : St w0 F0 w F L M)
    (hw : Region.wanted ⟨d, .store T x y, t, pos, after, guard⟩ (yielded ops a.tmps) = true) (hx : a.eval x = .pointer (some ⟨n, j, none⟩)) (hy : a.eval y = v) (hL : L[i]? = some ⟨n, c, T'⟩)
    (hi : (P.info? T).map (·.size) = some v.cells.size) (h1 : v.cells.all (·.oneCell') = true) (hl : j + v.cells.size ≤ c.length)
    (h : ∀ w', St w0 F0 w' F (L.set i ⟨n, splice c j v.cells.toList, T'⟩) M → WL P ops Q rest (a.put d undef) w') : WL P ops Q (⟨d, .store T x y, t, pos, after, guard⟩ :: rest) a w := by
  have hs := storeV (P := P) (T := T) (v := v) hi (S.there hL j v.cells.size hl) h1
  refine doS hw (ex_store hx (by rw [hy]; exact hs)) (h _ (S.store hL j v.cells.toList (by simpa using hl)))
/-- A call that makes something. -/
theorem stGives {ops : Array Oper} {Q : Exit → Act → World → Prop} {a : Act} {rest : List Oper} {o : Oper} {k : FuncId} {vs : Array Value} {R : Fz → Value → Prop} (S : St w0 F0 w F L M) (hw : Region.wanted o (yielded ops a.tmps) = true)
    (hr : (execOp a.eval o).run P w = .ok (.enter k vs) w) (hc : Calls P k vs w (Gives w F R))
    (h : ∀ v w' F', St w0 F0 w' F' L M → Le F F' → R F' v → WL P ops Q rest (a.put o.dst v) w') : WL P ops Q (o :: rest) a w :=
  doC hw hr hc fun e w' ⟨v, F', he, g, hR⟩ => ⟨v, he, h v w' F' (S.gives g) (g.le S.sat) hR⟩
/-- A call that hands back this. -/
theorem stTells {ops : Array Oper} {Q : Exit → Act → World → Prop} {a : Act} {rest : List Oper} {o : Oper} {k : FuncId} {vs : Array Value} {v : Value} (S : St w0 F0 w F L M) (hw : Region.wanted o (yielded ops a.tmps) = true)
    (hr : (execOp a.eval o).run P w = .ok (.enter k vs) w) (hc : Calls P k vs w (Tells w v))
    (h : ∀ w', St w0 F0 w' F L M → WL P ops Q rest (a.put o.dst v) w') : WL P ops Q (o :: rest) a w :=
  doC hw hr hc fun e w' ⟨he, hb⟩ => ⟨v, he, h w' (S.tells hb)⟩
theorem tells_same {k : FuncId} {vs : Array Value} {v : Value} (h : Calls P k vs w fun e w' => e = .returned v ∧ w' = w) : Calls P k vs w (Tells w v) := h.mono fun e w' ⟨he, hw⟩ => ⟨he, by subst hw; exact Below.refl _ _⟩
/-- What lies on top of the call's own blocks is appended to a row. -/
theorem stPush {ops : Array Oper} {Q : Exit → Act → World → Prop} {a : Act} {rest : List Oper} {d : Option Tmp} {t T E : TypeId} {x s : Operand} {pos : String} {after : Array Edge} {guard : Option (Nat × Bool)} {α : Type} {k base : Nat} {R : Fz → List Value → α → Prop} {hR : ∀ F F' x p, Le F F' → R F x p → R F' x p}
    {v : Value} {l : List α} {p : α} {i r n cp : Nat} {cs : List Value} {T' : TypeId} (S : St w0 F0 w F L M) (hw : Region.wanted ⟨d, .call ⟨.builtin .append, #[s, x], #[T, T]⟩, t, pos, after, guard⟩ (yielded ops a.tmps) = true)
    (inf : TypeInfo) (z : Value) (bytes : Nat) (ht : P.underlying T = some (.slice E)) (hi : P.info? E = some inf) (hz : inf.zero = some z) (hsize : inf.size = k) (hby : inf.bytes = bytes) (hzs : z.cells.size = k) (hsz : 0 < k)
    (hs : a.eval s = v) (hx : a.eval x = .slice (some ⟨n, 0, none⟩) 1 cp) (hM : M[r]? = some (ownP k R hR E base v l)) (hL : L[i]? = some ⟨n, cs, T'⟩) (hl : cs.length = k) (h1 : ∀ u ∈ cs, u.oneCell' = true) (hp : R F cs p)
    (hb : w0.heap.size ≤ base) (hb2 : base ≤ w.heap.size) (h63 : l.length + 1 ≤ maxLen) (hbytes : (l.length + 1) * bytes ≤ 140737488355328)
    (h : ∀ v' w', St w0 F0 w' F L (M.set r (ownP k R hR E base v' (l ++ [p]))) → v' ≠ .slice none 0 0 → WL P ops Q rest (a.put d v') w') : WL P ops Q (⟨d, .call ⟨.builtin .append, #[s, x], #[T, T]⟩, t, pos, after, guard⟩ :: rest) a w := by
  obtain ⟨el, e1, e2, e3⟩ := (S.own hM).ex
  have hbk := (S.blk _ (St.mem hL)).1
  obtain ⟨g, cap, w', hrun, h2, h3, h4, h5⟩ := run_append_lies w T t base E inf z k bytes ht hi hz hsize hby hzs hsz v l.length el.flatten e1 ⟨n, 0, none⟩ 1 cp cs (by rw [hl]; omega) (fun j u hu => World.news_of_block hbk j u (by simpa using hu)) h1 (by omega) h63 hbytes hb2 w.heap.size rfl (P := P)
  have hout : ∀ g', (Value.slice (some ⟨g, 0, none⟩) (l.length + 1) cap).ownBlock = some g' → F g' = none := by
    intro g' hg'
    cases hg'
    rcases h4 with h4 | h4
    · exact (S.own hM).out _ h4
    · subst h4; exact S.sat.out (Nat.le_refl _)
  have hown : Own k R E base w' F (.slice (some ⟨g, 0, none⟩) (l.length + 1) cap) (l ++ [p]) := by
    refine ⟨⟨el ++ [cs], ?_, e2.append ⟨hp, trivial⟩, fun y hy => ?_⟩, hout⟩
    · rw [List.flatten_append, List.length_append]
      simpa using h2
    · rcases List.mem_append.1 hy with hy | hy
      · exact e3 y hy
      · rw [List.mem_singleton.1 hy]; exact hl
  refine do_ hw (.slice (some ⟨g, 0, none⟩) (l.length + 1) cap) ?_ (h _ w' (S.grown hM hb h3 hown (fun g' hg' => ?_)) (by simp))
  · simp only [execOp, resolve, invoke, builtin, Sem.run_bind, Sem.run_pure, Result.andThen_ok, List.map_toArray, List.map_cons, List.map_nil, hs, hx, hrun]
  · cases hg'
    rcases h4 with h4 | h4
    · exact .inl h4
    · exact .inr (Nat.le_of_eq h4.symm)
end
theorem sub_range {c cs : List Value} (j : Nat) (h : (c.drop j).take cs.length = cs) : ∀ (k : Nat) v, cs[k]? = some v → c[j + k]? = some v := by
  intro k v hk
  rw [← h, List.getElem?_take] at hk
  split at hk
  · rwa [List.getElem?_drop] at hk
  · cases hk
section
variable {w : World} {b o : Nat} {x y z u : Value}
theorem range2 (h0 : w.cell? ⟨b, o, none⟩ = some x) (h1 : w.cell? ⟨b, o + 1, none⟩ = some y) : w.rangeAt b o [x, y] := fun j v hv => by
  match j, hv with
  | 0, hv => cases hv; exact h0
  | 1, hv => cases hv; exact h1
theorem range4 (h0 : w.cell? ⟨b, o, none⟩ = some x) (h1 : w.cell? ⟨b, o + 1, none⟩ = some y) (h2 : w.cell? ⟨b, o + 2, none⟩ = some z) (h3 : w.cell? ⟨b, o + 3, none⟩ = some u) : w.rangeAt b o [x, y, z, u] := fun j v hv => by
  match j, hv with
  | 0, hv => cases hv; exact h0
  | 1, hv => cases hv; exact h1
  | 2, hv => cases hv; exact h2
  | 3, hv => cases hv; exact h3
theorem slice_zero {A : Option Addr} {c sz n l c' : Nat} (h : l = n := by rfl) (hc : c' = c := by rfl) : (Value.slice A l c') = .slice (if c = 0 then A else A.map (·.add (0 * sz))) (n - 0) (c - 0) := by
  subst h; subst hc
  split
  · rfl
  · have : A.map (·.add (0 * sz)) = A := by cases A <;> simp [Addr.add]
    rw [this]; rfl
theorem slice_at {b o c sz l n n' c' o' : Nat} (h : l < c) (hn : n - l = n') (hc : c - l = c') (ho : o + l * sz = o') : (Value.slice (some ⟨b, o', none⟩) n' c') = .slice (if c = l then some ⟨b, o, none⟩ else (some ⟨b, o, none⟩ : Option Addr).map (·.add (l * sz))) (n - l) (c - l) := by
  subst hn; subst hc; subst ho
  rw [if_neg (by omega)]
  show _ = Value.slice (some (Addr.add ⟨b, o, none⟩ (l * sz))) _ _
  rw [Addr.add_mid]
end
section
variable {P : Program} {fn : Func} {tmps : Array Value} {w : World}
theorem asAddr_ptr (p : Addr) : (asAddr (.pointer (some p))).run P w = .ok p w := rfl
theorem res_c {c T : Nat} {v : Value} (h : fn.results = #[.cell c T]) (h1 : ∃ p, tmps.getD c undef = .pointer (some p) ∧ (loadVar T p).run P w = .ok v w) : (results fn tmps).run P w = .ok v w := by
  obtain ⟨p, h1, h2⟩ := h1
  rw [Array.getD_eq_getD_getElem?] at h1
  simp [results, h, h1, asAddr_ptr, h2]
theorem res_ct {c T t : Nat} {v : Value} (h : fn.results = #[.cell c T, .tmp t]) (h1 : ∃ p, tmps.getD c undef = .pointer (some p) ∧ (loadVar T p).run P w = .ok v w) {u : Value} (h2 : tmps.getD t undef = u) : (results fn tmps).run P w = .ok (.tuple #[v, u]) w := by
  obtain ⟨p, h1, h3⟩ := h1
  subst h2
  rw [Array.getD_eq_getD_getElem?] at h1
  simp [results, h, h1, asAddr_ptr, h3]
theorem res_ (h : fn.results = #[]) : (results fn tmps).run P w = .ok (.tuple #[]) w := results_none h _ _ _
theorem res_t {t : Nat} {v : Value} (h : fn.results = #[.tmp t]) (h1 : tmps.getD t undef = v) : (results fn tmps).run P w = .ok v w := by
  subst h1; exact results_tmp h _ _ _
theorem res_tt {t s : Nat} {u v : Value} (h : fn.results = #[.tmp t, .tmp s]) (h1 : tmps.getD t undef = u) (h2 : tmps.getD s undef = v) : (results fn tmps).run P w = .ok (.tuple #[u, v]) w := by
  subst h1; subst h2; exact results_tmp2 h _ _ _
theorem pureAt_of {o : Oper} {a : Act} {v : Value} (h : (execOp a.eval o).run P w = .ok (.value v) w) : PureAt P o a w v := by unfold PureAt; rw [h]; exact ⟨rfl, rfl⟩
theorem does_call {o : Oper} {a : Act} {Φ : Value → World → Prop} {k : FuncId} {vs : Array Value} (h : (execOp a.eval o).run P w = .ok (.enter k vs) w) (hc : Calls P k vs w (CallPost Φ)) : Does P o a w Φ := by unfold Does; rw [h]; exact ⟨rfl, hc⟩
end
theorem pS (t : Array Value) (ds : List Deferred) (d : Tmp) (v : Value) : (⟨t, ds⟩ : Act).put (some d) v = ⟨t.setIfInBounds d v, ds⟩ := rfl
theorem pN (a : Act) (v : Value) : a.put none v = a := rfl
theorem pA (l : List Value) (i : Nat) (v : Value) : l.toArray.setIfInBounds i v = (l.set i v).toArray := List.setIfInBounds_toArray ..
theorem pC (x : Value) (l : List Value) (n : Nat) (v : Value) : (x :: l).set (n + 1) v = x :: l.set n v := rfl
theorem pZ (x : Value) (l : List Value) (v : Value) : (x :: l).set 0 v = v :: l := rfl
/-- What the slots of a frame hold. -/
def slotF : List Value → Nat → Value
  | [], _ => undef
  | v :: _, 0 => v
  | _ :: l, n + 1 => slotF l n
def slots (a : Act) : Nat → Value := slotF a.tmps.toList
/-- A loop whose measure is told beside its frame; what follows is not looked at. -/
theorem exists_min {p : Nat → Prop} (h : ∃ n, p n) : ∃ n, p n ∧ ∀ m, p m → n ≤ m := by
  obtain ⟨n, hn⟩ := h
  induction n using Nat.strongRecOn with
  | _ n ih =>
    by_cases hx : ∃ m, m < n ∧ p m
    · obtain ⟨m, h1, h2⟩ := hx; exact ih m h1 h2
    · exact ⟨n, hn, fun m hm => Nat.le_of_not_lt fun h => hx ⟨m, h, hm⟩⟩
open Classical in
noncomputable def leastOf (p : Nat → Prop) : Nat := if h : ∃ n, p n then (exists_min h).choose else 0
theorem leastOf_spec {p : Nat → Prop} (h : ∃ n, p n) : p (leastOf p) ∧ ∀ m, p m → leastOf p ≤ m := by
  unfold leastOf; rw [dif_pos h]; exact (exists_min h).choose_spec
theorem wp_loop_g {P : Program} {c : Code} {Q : Exit → Act → World → Prop} {a : Act} {w : World} (I : Nat → Act → World → Prop) (n : Nat) (h0 : I n a w)
    (round : ∀ n a w, I n a w → ∀ K : Act → World → Prop, (∀ m a' w', m < n → I m a' w' → K a' w') → c.wp P (Exit.then K Q) a w) : (Code.loop c).wp P Q a w :=
  wp_loop (fun a w => ∃ n, I n a w) (fun a w => leastOf fun n => I n a w) ⟨n, h0⟩ fun a w h => by
    have hs := leastOf_spec h
    refine round _ a w hs.1 _ fun m a' w' hm hI => ⟨⟨m, hI⟩, ?_⟩
    exact Nat.lt_of_le_of_lt ((leastOf_spec (p := fun n => I n a' w') ⟨m, hI⟩).2 m hI) hm
section
variable {ρ : Operand → Value}
theorem bmap0 : ((#[] : Array (Nat × Operand)).map fun (i, x) => (i, ρ x)) = #[] := by simp
theorem map1 {x0 : Operand} {v0 : Value} (h0 : ρ x0 = v0) : #[x0].map ρ = #[v0] := by simp [h0]
theorem bmap1 {x0 : Operand} {v0 : Value} {i0 : Nat} (h0 : ρ x0 = v0) : (#[(i0, x0)].map fun ((i, x) : Nat × Operand) => (i, ρ x)) = #[(i0, v0)] := by simp [h0]
theorem map2 {x0 x1 : Operand} {v0 v1 : Value} (h0 : ρ x0 = v0) (h1 : ρ x1 = v1) : #[x0, x1].map ρ = #[v0, v1] := by simp [h0, h1]
theorem bmap2 {x0 x1 : Operand} {v0 v1 : Value} {i0 i1 : Nat} (h0 : ρ x0 = v0) (h1 : ρ x1 = v1) : (#[(i0, x0), (i1, x1)].map fun ((i, x) : Nat × Operand) => (i, ρ x)) = #[(i0, v0), (i1, v1)] := by simp [h0, h1]
theorem map3 {x0 x1 x2 : Operand} {v0 v1 v2 : Value} (h0 : ρ x0 = v0) (h1 : ρ x1 = v1) (h2 : ρ x2 = v2) : #[x0, x1, x2].map ρ = #[v0, v1, v2] := by simp [h0, h1, h2]
theorem bmap3 {x0 x1 x2 : Operand} {v0 v1 v2 : Value} {i0 i1 i2 : Nat} (h0 : ρ x0 = v0) (h1 : ρ x1 = v1) (h2 : ρ x2 = v2) : (#[(i0, x0), (i1, x1), (i2, x2)].map fun ((i, x) : Nat × Operand) => (i, ρ x)) = #[(i0, v0), (i1, v1), (i2, v2)] := by simp [h0, h1, h2]
theorem map4 {x0 x1 x2 x3 : Operand} {v0 v1 v2 v3 : Value} (h0 : ρ x0 = v0) (h1 : ρ x1 = v1) (h2 : ρ x2 = v2) (h3 : ρ x3 = v3) : #[x0, x1, x2, x3].map ρ = #[v0, v1, v2, v3] := by simp [h0, h1, h2, h3]
theorem map5 {x0 x1 x2 x3 x4 : Operand} {v0 v1 v2 v3 v4 : Value} (h0 : ρ x0 = v0) (h1 : ρ x1 = v1) (h2 : ρ x2 = v2) (h3 : ρ x3 = v3) (h4 : ρ x4 = v4) : #[x0, x1, x2, x3, x4].map ρ = #[v0, v1, v2, v3, v4] := by simp [h0, h1, h2, h3, h4]
theorem vmap {fs cs xs : Array Value} {os : Array Operand} {vs : Array Value} (h : os.map ρ = xs) (h2 : fs ++ xs ++ cs = vs) : fs ++ os.map ρ ++ cs = vs := by rw [h]; exact h2
end
theorem allc1 {x0 : Value} (h0 : x0.oneCell' = true) : (#[x0] : Array Value).all (·.oneCell') = true := by simp [h0]
theorem allc2 {x0 x1 : Value} (h0 : x0.oneCell' = true) (h1 : x1.oneCell' = true) : (#[x0, x1] : Array Value).all (·.oneCell') = true := by simp [h0, h1]
theorem allc4 {x0 x1 x2 x3 : Value} (h0 : x0.oneCell' = true) (h1 : x1.oneCell' = true) (h2 : x2.oneCell' = true) (h3 : x3.oneCell' = true) : (#[x0, x1, x2, x3] : Array Value).all (·.oneCell') = true := by simp [h0, h1, h2, h3]
theorem wanted_no {o oj : Oper} {ops : Array Oper} {tmps : Array Value} {j d : Nat} {b c : Bool} (hg : o.guard = some (j, b)) (hj : ops[j]? = some oj) (hd : oj.dst = some d) (hv : tmps.getD d undef = .bool c) (hc : c ≠ b) : Region.wanted o (yielded ops tmps) = false := by
  rw [Array.getD_eq_getD_getElem?] at hv
  have e : tmps[d]? = some (.bool c) := by
    cases h : tmps[d]? with
    | none => rw [h] at hv; cases hv
    | some x => rw [h] at hv; cases hv; rfl
  simp [Region.wanted, hg, yielded, hj, hd, e, hc]
section
variable {P : Program} {ops : Array Oper} {md : Region.Mode} {C : World → Prop} {Sp : Nat → OpSpec} {Lq : Act → Vals → Prop} {o : Oper} {l : List Oper} {k : Nat} {a : Act} {Vs : Vals}
theorem gw_nil (h : Lq a Vs) : GW P md ops C Sp Lq [] k a Vs := ⟨wpG_nil h⟩
theorem gw_pure (hw : Region.wanted o (yielded ops a.tmps) = true) (hs : Sp k = .pure) (v : Value) (h : ∀ w, C w → PureAt P o a w v) (hn : GW P md ops C Sp Lq l (k + 1) (a.put o.dst v) Vs) : GW P md ops C Sp Lq (o :: l) k a Vs := ⟨wpG_pure hw hs v h hn.out⟩
theorem gw_const (hw : Region.wanted o (yielded ops a.tmps) = true) {v : Value} (hs : Sp k = .const v) (h : ∀ w, C w → FactsAt md ops Sp k Vs w → Does P o a w (IsPost v w)) (hn : GW P md ops C Sp Lq l (k + 1) (a.put o.dst v) Vs) : GW P md ops C Sp Lq (o :: l) k a Vs := ⟨wpG_const hw hs h hn.out⟩
theorem gw_rel (hw : Region.wanted o (yielded ops a.tmps) = true) {R : Value → World → Prop} (hs : Sp k = .rel R) (h : ∀ w, C w → FactsAt md ops Sp k Vs w → Does P o a w (RelPost R w)) (hn : ∀ v, GW P md ops C Sp Lq l (k + 1) (a.put o.dst v) (upd Vs k v)) : GW P md ops C Sp Lq (o :: l) k a Vs := ⟨wpG_rel hw hs h fun v => (hn v).out⟩
theorem gw_skip (hw : Region.wanted o (yielded ops a.tmps) = false) (hn : GW P md ops C Sp Lq l (k + 1) (a.put o.dst undef) Vs) : GW P md ops C Sp Lq (o :: l) k a Vs := ⟨wpG_skip hw hn.out⟩
theorem region_gw {id : Nat} {Q : Exit → Act → World → Prop} {a : Act} {W : World} {l : List Oper} (F : Fz) (n : Nat) (L : List (Nat × Mark)) (hm : P.follows .mixedOrders = true) (hB : Region.lexTailB .any l.toArray n = true)
    (h : GW P .any l.toArray (fun w' => Below W.heap.size W w') (specOf W F L) (fun a' Vs => ∀ w', Below W.heap.size W w' → Facts (specOf W F L) Vs w' → WL P l.toArray Q (l.drop n) a' w') (l.take n) 0 a (fun _ => none)) : (Code.region id l.toArray true).wp P Q a W :=
  wp_region_made F n L hm hB (by
    have key : ∀ (ls : List Oper) (k : Nat) (a : Act) (Vs : Vals), wpG P .any l.toArray (fun w' => Below W.heap.size W w') (specOf W F L) (fun a' Vs => ∀ w', Below W.heap.size W w' → Facts (specOf W F L) Vs w' → WL P l.toArray Q (l.drop n) a' w') ls k a Vs →
        wpG P .any l.toArray (fun w' => Below W.heap.size W w') (specOf W F L) (fun a' Vs => ∀ w', Below W.heap.size W w' → Facts (specOf W F L) Vs w' → wpList P l.toArray Q (l.drop n) a' w') ls k a Vs := by
      intro ls
      induction ls with
      | nil => intro k a Vs h w' h1 h2; exact (h w' h1 h2).out
      | cons o ls ih =>
        intro k a Vs h
        unfold wpG at h ⊢
        split
        · rename_i hw
          rw [if_pos hw] at h
          obtain ⟨S, hS, hv⟩ := h
          exact ⟨S, hS, fun v hv' => ih _ _ _ (hv v hv')⟩
        · rename_i hw
          rw [if_neg hw] at h
          exact ih _ _ _ h
    exact key _ _ _ _ h.out)
end
end Go.Proofs.Ytlimmmidfhpakaa
namespace Go.Proofs.Ytlimmmidfhpakaa
open Go.RowKit
set_option linter.unusedVariables false
structure Pl where
  name : By
  key : By
  value : By
  gone : Bool
structure Ft where
  kind : Int
  a : Int
  data : By
/-- A pair by value. -/
theorem Prs.get {F : Fz} {a : Option Addr} {n c : Nat} {l : List Pr} (h : Prs F (.slice a n c) l) {i : Nat} {p : Pr} (hp : l[i]? = some p) :
    ∃ b o, a = some ⟨b, o, none⟩ ∧ ∃ xa xc ya yc, cellF F b (o + i * 2) = some (.slice xa p.1.length xc) ∧ cellF F b (o + i * 2 + 1) = some (.slice ya p.2.length yc) ∧ Bs F (.slice xa p.1.length xc) p.1 ∧ Bs F (.slice ya p.2.length yc) p.2 := by
  obtain ⟨hi, rfl⟩ := List.getElem?_eq_some_iff.1 hp
  have hn := h.len
  obtain ⟨b, o, e, h1⟩ := Prs.at h (by omega)
  obtain ⟨x, y, c1, c2, r1, r2⟩ := h1 i hi
  obtain ⟨xa, xc, rfl, _⟩ := r1.shape
  obtain ⟨ya, yc, rfl, _⟩ := r2.shape
  exact ⟨b, o, e, xa, xc, ya, yc, c1, c2, r1, r2⟩
theorem Prs.mono {F F' : Fz} {v : Value} {l : List Pr} (h : Prs F v l) (hl : Le F F') : Prs F' v l := Sl.mono PrC.mono h hl
theorem Prs.oneCell {F : Fz} {v : Value} {l : List Pr} (h : Prs F v l) : v.oneCell' = true := by obtain ⟨a, c, rfl, _⟩ := Sl.shape h; rfl
theorem Sl.takeN {α : Type} {k : Nat} {R : Fz → List Value → α → Prop} {F : Fz} {a : Option Addr} {n c : Nat} {l : List α} (h : Sl k R F (.slice a n c) l) {m : Nat} (hm : m ≤ n) : Sl k R F (.slice a m c) (l.take m) := by
  have hn := h.len
  obtain ⟨el, h1, h2, h3⟩ := h
  have h4 := Rw.takeN (by rw [hn] at h1; exact h1) (show m ≤ l.length by omega) k (F := F) (a := a) (c := c) (cs := el.flatten)
  refine ⟨el.take m, ?_, h2.take m, fun x hx => h3 x (List.mem_of_mem_take hx)⟩
  have e : (el.take m).flatten = el.flatten.take (m * k) := by
    clear h1 h2 h4 hn hm
    induction el generalizing m with
    | nil => simp
    | cons x el ih =>
      cases m with
      | zero => simp
      | succ m =>
        have hx := h3 x (by simp)
        simp only [List.take_succ_cons, List.flatten_cons]
        rw [ih (fun y hy => h3 y (by simp [hy])), Nat.add_mul, Nat.one_mul, List.take_append, hx, show m * k + k - k = m * k from by omega, List.take_of_length_le (show x.length ≤ m * k + k by omega)]
  rw [e, List.length_take, Nat.min_eq_left (by omega)]
  exact h4
theorem Sl.dropN {α : Type} {k : Nat} {R : Fz → List Value → α → Prop} {F : Fz} {b o n c : Nat} {l : List α} (h : Sl k R F (.slice (some ⟨b, o, none⟩) n c) l) {m n' c' : Nat} (hm : m ≤ n) (e1 : n - m = n') (e2 : c - m = c') : Sl k R F (.slice (some ⟨b, o + m * k, none⟩) n' c') (l.drop m) := by
  have hn := h.len
  subst e1; subst e2
  obtain ⟨el, h1, h2, h3⟩ := h
  obtain ⟨a', c0, q1, q2, q3, q4, q5⟩ := h1
  cases q1
  have hll := h2.len
  have e : (el.drop m).flatten = el.flatten.drop (m * k) := by
    clear h2 q5 hn hm q2 hll
    induction el generalizing m with
    | nil => simp
    | cons x el ih =>
      cases m with
      | zero => simp
      | succ m =>
        have hx := h3 x (by simp)
        simp only [List.drop_succ_cons, List.flatten_cons]
        rw [ih (fun y hy => h3 y (by simp [hy])), Nat.add_mul, Nat.one_mul, List.drop_append, hx, show m * k + k - k = m * k from by omega, List.drop_of_length_le (show x.length ≤ m * k + k by omega)]
        simp
  refine ⟨el.drop m, ⟨_, _, by rw [List.length_drop, hn], by rw [List.length_drop]; omega, by omega, (fun h => by cases h), ?_⟩, h2.drop m, fun x hx => h3 x (List.mem_of_mem_drop hx)⟩
  rw [e]
  rcases q5 with q5 | ⟨b', o', q6, q7⟩
  · left; rw [q5]; simp
  · right
    cases q6
    refine ⟨b, o + m * k, rfl, fun j u hu => ?_⟩
    rw [List.getElem?_drop] at hu
    have := q7 _ u hu
    rwa [← Nat.add_assoc] at this
/-- Tn: its cells. -/
def TnC (F : Fz) (cs : List Value) (p : (By × List Pr)) : Prop := ∃ a0 a1, cs = [a0, a1] ∧ Bs F a0 p.1 ∧ Prs F a1 p.2
theorem TnC.mono (F F' : Fz) (x : List Value) (p : (By × List Pr)) (hl : Le F F') (h : TnC F x p) : TnC F' x p := by
  obtain ⟨a0, a1, rfl, h0, h1⟩ := h
  exact ⟨a0, a1, rfl, h0.mono hl, h1.mono hl⟩
theorem TnC.oneCell {F : Fz} {cs : List Value} {p : (By × List Pr)} (h : TnC F cs p) : ∀ u ∈ cs, u.oneCell' = true := by
  obtain ⟨a0, a1, rfl, h0, h1⟩ := h
  intro u hu
  simp only [List.mem_cons, List.not_mem_nil, or_false] at hu
  rcases hu with rfl | rfl
  · exact h0.oneCell
  · exact h1.oneCell
abbrev Tns (F : Fz) (v : Value) (l : List (By × List Pr)) : Prop := Sl 2 TnC F v l
theorem Tns.mono {F F' : Fz} {v : Value} {l : List (By × List Pr)} (h : Tns F v l) (hl : Le F F') : Tns F' v l := Sl.mono TnC.mono h hl
theorem Tns.oneCell {F : Fz} {v : Value} {l : List (By × List Pr)} (h : Tns F v l) : v.oneCell' = true := by obtain ⟨a, c, rfl, _⟩ := Sl.shape h; rfl
theorem Tns.get {F : Fz} {a : Option Addr} {n c : Nat} {l : List (By × List Pr)} (h : Tns F (.slice a n c) l) {i : Nat} {p : (By × List Pr)} (hp : l[i]? = some p) :
    ∃ b o, a = some ⟨b, o, none⟩ ∧ ∃ x0 y0 x1 y1, cellF F b (o + i * 2) = some (.slice x0 p.1.length y0) ∧ cellF F b (o + i * 2 + 1) = some (.slice x1 p.2.length y1) ∧ Bs F (.slice x0 p.1.length y0) p.1 ∧ Prs F (.slice x1 p.2.length y1) p.2 := by
  obtain ⟨hi, rfl⟩ := List.getElem?_eq_some_iff.1 hp
  have hn := Sl.len h
  obtain ⟨b, o, e, h1⟩ := Sl.at h (by omega) (by omega)
  obtain ⟨cs, q1, ⟨a0, a1, rfl, h0, h1⟩, q3⟩ := h1 i hi
  obtain ⟨x0, y0, rfl, _⟩ := h0.shape
  obtain ⟨x1, y1, rfl, _⟩ := h1.shape
  exact ⟨b, o, e, x0, y0, x1, y1, by have := q3 0 (by simp); simpa [Nat.add_assoc] using this, by have := q3 1 (by simp); simpa [Nat.add_assoc] using this, h0, h1⟩
def TnV (F : Fz) (v : Value) (p : (By × List Pr)) : Prop := ∃ x0 y0 x1 y1, v = .agg #[.slice x0 p.1.length y0, .slice x1 p.2.length y1] ∧ Bs F (.slice x0 p.1.length y0) p.1 ∧ Prs F (.slice x1 p.2.length y1) p.2
theorem TnV.mono {F F' : Fz} {v : Value} {p : (By × List Pr)} (h : TnV F v p) (hl : Le F F') : TnV F' v p := by
  obtain ⟨x0, y0, x1, y1, rfl, h0, h1⟩ := h
  exact ⟨x0, y0, x1, y1, rfl, h0.mono hl, h1.mono hl⟩
/-- Wr: its cells. -/
def WrC (F : Fz) (cs : List Value) (p : Wr) : Prop := ∃ a0 a1 a2 a3, cs = [a0, a1, a2, a3] ∧ Bs F a0 p.name ∧ Bs F a1 p.key ∧ a2 = .bool p.gone ∧ Bs F a3 p.value
theorem WrC.mono (F F' : Fz) (x : List Value) (p : Wr) (hl : Le F F') (h : WrC F x p) : WrC F' x p := by
  obtain ⟨a0, a1, a2, a3, rfl, h0, h1, h2, h3⟩ := h
  exact ⟨a0, a1, a2, a3, rfl, h0.mono hl, h1.mono hl, h2, h3.mono hl⟩
theorem WrC.oneCell {F : Fz} {cs : List Value} {p : Wr} (h : WrC F cs p) : ∀ u ∈ cs, u.oneCell' = true := by
  obtain ⟨a0, a1, a2, a3, rfl, h0, h1, h2, h3⟩ := h
  intro u hu
  simp only [List.mem_cons, List.not_mem_nil, or_false] at hu
  rcases hu with rfl | rfl | rfl | rfl
  · exact h0.oneCell
  · exact h1.oneCell
  · rw [h2]; rfl
  · exact h3.oneCell
abbrev Wrs (F : Fz) (v : Value) (l : List Wr) : Prop := Sl 4 WrC F v l
theorem Wrs.mono {F F' : Fz} {v : Value} {l : List Wr} (h : Wrs F v l) (hl : Le F F') : Wrs F' v l := Sl.mono WrC.mono h hl
theorem Wrs.oneCell {F : Fz} {v : Value} {l : List Wr} (h : Wrs F v l) : v.oneCell' = true := by obtain ⟨a, c, rfl, _⟩ := Sl.shape h; rfl
theorem Wrs.get {F : Fz} {a : Option Addr} {n c : Nat} {l : List Wr} (h : Wrs F (.slice a n c) l) {i : Nat} {p : Wr} (hp : l[i]? = some p) :
    ∃ b o, a = some ⟨b, o, none⟩ ∧ ∃ x0 y0 x1 y1 x3 y3, cellF F b (o + i * 4) = some (.slice x0 p.name.length y0) ∧ cellF F b (o + i * 4 + 1) = some (.slice x1 p.key.length y1) ∧ cellF F b (o + i * 4 + 2) = some (.bool p.gone) ∧ cellF F b (o + i * 4 + 3) = some (.slice x3 p.value.length y3) ∧ Bs F (.slice x0 p.name.length y0) p.name ∧ Bs F (.slice x1 p.key.length y1) p.key ∧ Bs F (.slice x3 p.value.length y3) p.value := by
  obtain ⟨hi, rfl⟩ := List.getElem?_eq_some_iff.1 hp
  have hn := Sl.len h
  obtain ⟨b, o, e, h1⟩ := Sl.at h (by omega) (by omega)
  obtain ⟨cs, q1, ⟨a0, a1, a2, a3, rfl, h0, h1, h2, h3⟩, q3⟩ := h1 i hi
  obtain ⟨x0, y0, rfl, _⟩ := h0.shape
  obtain ⟨x1, y1, rfl, _⟩ := h1.shape
  subst h2
  obtain ⟨x3, y3, rfl, _⟩ := h3.shape
  exact ⟨b, o, e, x0, y0, x1, y1, x3, y3, by have := q3 0 (by simp); simpa [Nat.add_assoc] using this, by have := q3 1 (by simp); simpa [Nat.add_assoc] using this, by have := q3 2 (by simp); simpa [Nat.add_assoc] using this, by have := q3 3 (by simp); simpa [Nat.add_assoc] using this, h0, h1, h3⟩
def WrV (F : Fz) (v : Value) (p : Wr) : Prop := ∃ x0 y0 x1 y1 x3 y3, v = .agg #[.slice x0 p.name.length y0, .slice x1 p.key.length y1, .bool p.gone, .slice x3 p.value.length y3] ∧ Bs F (.slice x0 p.name.length y0) p.name ∧ Bs F (.slice x1 p.key.length y1) p.key ∧ Bs F (.slice x3 p.value.length y3) p.value
theorem WrV.mono {F F' : Fz} {v : Value} {p : Wr} (h : WrV F v p) (hl : Le F F') : WrV F' v p := by
  obtain ⟨x0, y0, x1, y1, x3, y3, rfl, h0, h1, h2⟩ := h
  exact ⟨x0, y0, x1, y1, x3, y3, rfl, h0.mono hl, h1.mono hl, h2.mono hl⟩
/-- Rd: its cells. -/
def RdC (F : Fz) (cs : List Value) (p : Rd) : Prop := ∃ a0 a1 a2 a3, cs = [a0, a1, a2, a3] ∧ Bs F a0 p.name ∧ Bs F a1 p.key ∧ a2 = .bool p.wide ∧ Bs F a3 p.last
theorem RdC.mono (F F' : Fz) (x : List Value) (p : Rd) (hl : Le F F') (h : RdC F x p) : RdC F' x p := by
  obtain ⟨a0, a1, a2, a3, rfl, h0, h1, h2, h3⟩ := h
  exact ⟨a0, a1, a2, a3, rfl, h0.mono hl, h1.mono hl, h2, h3.mono hl⟩
theorem RdC.oneCell {F : Fz} {cs : List Value} {p : Rd} (h : RdC F cs p) : ∀ u ∈ cs, u.oneCell' = true := by
  obtain ⟨a0, a1, a2, a3, rfl, h0, h1, h2, h3⟩ := h
  intro u hu
  simp only [List.mem_cons, List.not_mem_nil, or_false] at hu
  rcases hu with rfl | rfl | rfl | rfl
  · exact h0.oneCell
  · exact h1.oneCell
  · rw [h2]; rfl
  · exact h3.oneCell
abbrev Rds (F : Fz) (v : Value) (l : List Rd) : Prop := Sl 4 RdC F v l
theorem Rds.mono {F F' : Fz} {v : Value} {l : List Rd} (h : Rds F v l) (hl : Le F F') : Rds F' v l := Sl.mono RdC.mono h hl
theorem Rds.oneCell {F : Fz} {v : Value} {l : List Rd} (h : Rds F v l) : v.oneCell' = true := by obtain ⟨a, c, rfl, _⟩ := Sl.shape h; rfl
theorem Rds.get {F : Fz} {a : Option Addr} {n c : Nat} {l : List Rd} (h : Rds F (.slice a n c) l) {i : Nat} {p : Rd} (hp : l[i]? = some p) :
    ∃ b o, a = some ⟨b, o, none⟩ ∧ ∃ x0 y0 x1 y1 x3 y3, cellF F b (o + i * 4) = some (.slice x0 p.name.length y0) ∧ cellF F b (o + i * 4 + 1) = some (.slice x1 p.key.length y1) ∧ cellF F b (o + i * 4 + 2) = some (.bool p.wide) ∧ cellF F b (o + i * 4 + 3) = some (.slice x3 p.last.length y3) ∧ Bs F (.slice x0 p.name.length y0) p.name ∧ Bs F (.slice x1 p.key.length y1) p.key ∧ Bs F (.slice x3 p.last.length y3) p.last := by
  obtain ⟨hi, rfl⟩ := List.getElem?_eq_some_iff.1 hp
  have hn := Sl.len h
  obtain ⟨b, o, e, h1⟩ := Sl.at h (by omega) (by omega)
  obtain ⟨cs, q1, ⟨a0, a1, a2, a3, rfl, h0, h1, h2, h3⟩, q3⟩ := h1 i hi
  obtain ⟨x0, y0, rfl, _⟩ := h0.shape
  obtain ⟨x1, y1, rfl, _⟩ := h1.shape
  subst h2
  obtain ⟨x3, y3, rfl, _⟩ := h3.shape
  exact ⟨b, o, e, x0, y0, x1, y1, x3, y3, by have := q3 0 (by simp); simpa [Nat.add_assoc] using this, by have := q3 1 (by simp); simpa [Nat.add_assoc] using this, by have := q3 2 (by simp); simpa [Nat.add_assoc] using this, by have := q3 3 (by simp); simpa [Nat.add_assoc] using this, h0, h1, h3⟩
def RdV (F : Fz) (v : Value) (p : Rd) : Prop := ∃ x0 y0 x1 y1 x3 y3, v = .agg #[.slice x0 p.name.length y0, .slice x1 p.key.length y1, .bool p.wide, .slice x3 p.last.length y3] ∧ Bs F (.slice x0 p.name.length y0) p.name ∧ Bs F (.slice x1 p.key.length y1) p.key ∧ Bs F (.slice x3 p.last.length y3) p.last
theorem RdV.mono {F F' : Fz} {v : Value} {p : Rd} (h : RdV F v p) (hl : Le F F') : RdV F' v p := by
  obtain ⟨x0, y0, x1, y1, x3, y3, rfl, h0, h1, h2⟩ := h
  exact ⟨x0, y0, x1, y1, x3, y3, rfl, h0.mono hl, h1.mono hl, h2.mono hl⟩
/-- Cm: its cells. -/
def CmC (F : Fz) (cs : List Value) (p : Cm) : Prop := ∃ a0 a1, cs = [a0, a1] ∧ a0 = .int .i64 ((p.turn : Nat) : Int) ∧ Wrs F a1 p.writes
theorem CmC.mono (F F' : Fz) (x : List Value) (p : Cm) (hl : Le F F') (h : CmC F x p) : CmC F' x p := by
  obtain ⟨a0, a1, rfl, h0, h1⟩ := h
  exact ⟨a0, a1, rfl, h0, h1.mono hl⟩
theorem CmC.oneCell {F : Fz} {cs : List Value} {p : Cm} (h : CmC F cs p) : ∀ u ∈ cs, u.oneCell' = true := by
  obtain ⟨a0, a1, rfl, h0, h1⟩ := h
  intro u hu
  simp only [List.mem_cons, List.not_mem_nil, or_false] at hu
  rcases hu with rfl | rfl
  · rw [h0]; rfl
  · exact h1.oneCell
abbrev Cms (F : Fz) (v : Value) (l : List Cm) : Prop := Sl 2 CmC F v l
theorem Cms.mono {F F' : Fz} {v : Value} {l : List Cm} (h : Cms F v l) (hl : Le F F') : Cms F' v l := Sl.mono CmC.mono h hl
theorem Cms.oneCell {F : Fz} {v : Value} {l : List Cm} (h : Cms F v l) : v.oneCell' = true := by obtain ⟨a, c, rfl, _⟩ := Sl.shape h; rfl
theorem Cms.get {F : Fz} {a : Option Addr} {n c : Nat} {l : List Cm} (h : Cms F (.slice a n c) l) {i : Nat} {p : Cm} (hp : l[i]? = some p) :
    ∃ b o, a = some ⟨b, o, none⟩ ∧ ∃ x1 y1, cellF F b (o + i * 2) = some (.int .i64 ((p.turn : Nat) : Int)) ∧ cellF F b (o + i * 2 + 1) = some (.slice x1 p.writes.length y1) ∧ Wrs F (.slice x1 p.writes.length y1) p.writes := by
  obtain ⟨hi, rfl⟩ := List.getElem?_eq_some_iff.1 hp
  have hn := Sl.len h
  obtain ⟨b, o, e, h1⟩ := Sl.at h (by omega) (by omega)
  obtain ⟨cs, q1, ⟨a0, a1, rfl, h0, h1⟩, q3⟩ := h1 i hi
  subst h0
  obtain ⟨x1, y1, rfl, _⟩ := h1.shape
  exact ⟨b, o, e, x1, y1, by have := q3 0 (by simp); simpa [Nat.add_assoc] using this, by have := q3 1 (by simp); simpa [Nat.add_assoc] using this, h1⟩
def CmV (F : Fz) (v : Value) (p : Cm) : Prop := ∃ x1 y1, v = .agg #[.int .i64 ((p.turn : Nat) : Int), .slice x1 p.writes.length y1] ∧ Wrs F (.slice x1 p.writes.length y1) p.writes
theorem CmV.mono {F F' : Fz} {v : Value} {p : Cm} (h : CmV F v p) (hl : Le F F') : CmV F' v p := by
  obtain ⟨x1, y1, rfl, h0⟩ := h
  exact ⟨x1, y1, rfl, h0.mono hl⟩
/-- Stp: its cells. -/
def StpC (F : Fz) (cs : List Value) (p : Stp) : Prop := ∃ a0 a1 a2, cs = [a0, a1, a2] ∧ a0 = .int .i64 ((p.bit : Nat) : Int) ∧ a1 = .bool p.right ∧ Bs F a2 p.other
theorem StpC.mono (F F' : Fz) (x : List Value) (p : Stp) (hl : Le F F') (h : StpC F x p) : StpC F' x p := by
  obtain ⟨a0, a1, a2, rfl, h0, h1, h2⟩ := h
  exact ⟨a0, a1, a2, rfl, h0, h1, h2.mono hl⟩
theorem StpC.oneCell {F : Fz} {cs : List Value} {p : Stp} (h : StpC F cs p) : ∀ u ∈ cs, u.oneCell' = true := by
  obtain ⟨a0, a1, a2, rfl, h0, h1, h2⟩ := h
  intro u hu
  simp only [List.mem_cons, List.not_mem_nil, or_false] at hu
  rcases hu with rfl | rfl | rfl
  · rw [h0]; rfl
  · rw [h1]; rfl
  · exact h2.oneCell
abbrev Stps (F : Fz) (v : Value) (l : List Stp) : Prop := Sl 3 StpC F v l
theorem Stps.mono {F F' : Fz} {v : Value} {l : List Stp} (h : Stps F v l) (hl : Le F F') : Stps F' v l := Sl.mono StpC.mono h hl
theorem Stps.oneCell {F : Fz} {v : Value} {l : List Stp} (h : Stps F v l) : v.oneCell' = true := by obtain ⟨a, c, rfl, _⟩ := Sl.shape h; rfl
theorem Stps.get {F : Fz} {a : Option Addr} {n c : Nat} {l : List Stp} (h : Stps F (.slice a n c) l) {i : Nat} {p : Stp} (hp : l[i]? = some p) :
    ∃ b o, a = some ⟨b, o, none⟩ ∧ ∃ x2 y2, cellF F b (o + i * 3) = some (.int .i64 ((p.bit : Nat) : Int)) ∧ cellF F b (o + i * 3 + 1) = some (.bool p.right) ∧ cellF F b (o + i * 3 + 2) = some (.slice x2 p.other.length y2) ∧ Bs F (.slice x2 p.other.length y2) p.other := by
  obtain ⟨hi, rfl⟩ := List.getElem?_eq_some_iff.1 hp
  have hn := Sl.len h
  obtain ⟨b, o, e, h1⟩ := Sl.at h (by omega) (by omega)
  obtain ⟨cs, q1, ⟨a0, a1, a2, rfl, h0, h1, h2⟩, q3⟩ := h1 i hi
  subst h0
  subst h1
  obtain ⟨x2, y2, rfl, _⟩ := h2.shape
  exact ⟨b, o, e, x2, y2, by have := q3 0 (by simp); simpa [Nat.add_assoc] using this, by have := q3 1 (by simp); simpa [Nat.add_assoc] using this, by have := q3 2 (by simp); simpa [Nat.add_assoc] using this, h2⟩
def StpV (F : Fz) (v : Value) (p : Stp) : Prop := ∃ x2 y2, v = .agg #[.int .i64 ((p.bit : Nat) : Int), .bool p.right, .slice x2 p.other.length y2] ∧ Bs F (.slice x2 p.other.length y2) p.other
theorem StpV.mono {F F' : Fz} {v : Value} {p : Stp} (h : StpV F v p) (hl : Le F F') : StpV F' v p := by
  obtain ⟨x2, y2, rfl, h0⟩ := h
  exact ⟨x2, y2, rfl, h0.mono hl⟩
/-- Pl: its cells. -/
def PlC (F : Fz) (cs : List Value) (p : Pl) : Prop := ∃ a0 a1 a2 a3, cs = [a0, a1, a2, a3] ∧ Bs F a0 p.name ∧ Bs F a1 p.key ∧ Bs F a2 p.value ∧ a3 = .bool p.gone
theorem PlC.mono (F F' : Fz) (x : List Value) (p : Pl) (hl : Le F F') (h : PlC F x p) : PlC F' x p := by
  obtain ⟨a0, a1, a2, a3, rfl, h0, h1, h2, h3⟩ := h
  exact ⟨a0, a1, a2, a3, rfl, h0.mono hl, h1.mono hl, h2.mono hl, h3⟩
theorem PlC.oneCell {F : Fz} {cs : List Value} {p : Pl} (h : PlC F cs p) : ∀ u ∈ cs, u.oneCell' = true := by
  obtain ⟨a0, a1, a2, a3, rfl, h0, h1, h2, h3⟩ := h
  intro u hu
  simp only [List.mem_cons, List.not_mem_nil, or_false] at hu
  rcases hu with rfl | rfl | rfl | rfl
  · exact h0.oneCell
  · exact h1.oneCell
  · exact h2.oneCell
  · rw [h3]; rfl
abbrev Pls (F : Fz) (v : Value) (l : List Pl) : Prop := Sl 4 PlC F v l
theorem Pls.mono {F F' : Fz} {v : Value} {l : List Pl} (h : Pls F v l) (hl : Le F F') : Pls F' v l := Sl.mono PlC.mono h hl
theorem Pls.oneCell {F : Fz} {v : Value} {l : List Pl} (h : Pls F v l) : v.oneCell' = true := by obtain ⟨a, c, rfl, _⟩ := Sl.shape h; rfl
theorem Pls.get {F : Fz} {a : Option Addr} {n c : Nat} {l : List Pl} (h : Pls F (.slice a n c) l) {i : Nat} {p : Pl} (hp : l[i]? = some p) :
    ∃ b o, a = some ⟨b, o, none⟩ ∧ ∃ x0 y0 x1 y1 x2 y2, cellF F b (o + i * 4) = some (.slice x0 p.name.length y0) ∧ cellF F b (o + i * 4 + 1) = some (.slice x1 p.key.length y1) ∧ cellF F b (o + i * 4 + 2) = some (.slice x2 p.value.length y2) ∧ cellF F b (o + i * 4 + 3) = some (.bool p.gone) ∧ Bs F (.slice x0 p.name.length y0) p.name ∧ Bs F (.slice x1 p.key.length y1) p.key ∧ Bs F (.slice x2 p.value.length y2) p.value := by
  obtain ⟨hi, rfl⟩ := List.getElem?_eq_some_iff.1 hp
  have hn := Sl.len h
  obtain ⟨b, o, e, h1⟩ := Sl.at h (by omega) (by omega)
  obtain ⟨cs, q1, ⟨a0, a1, a2, a3, rfl, h0, h1, h2, h3⟩, q3⟩ := h1 i hi
  obtain ⟨x0, y0, rfl, _⟩ := h0.shape
  obtain ⟨x1, y1, rfl, _⟩ := h1.shape
  obtain ⟨x2, y2, rfl, _⟩ := h2.shape
  subst h3
  exact ⟨b, o, e, x0, y0, x1, y1, x2, y2, by have := q3 0 (by simp); simpa [Nat.add_assoc] using this, by have := q3 1 (by simp); simpa [Nat.add_assoc] using this, by have := q3 2 (by simp); simpa [Nat.add_assoc] using this, by have := q3 3 (by simp); simpa [Nat.add_assoc] using this, h0, h1, h2⟩
def PlV (F : Fz) (v : Value) (p : Pl) : Prop := ∃ x0 y0 x1 y1 x2 y2, v = .agg #[.slice x0 p.name.length y0, .slice x1 p.key.length y1, .slice x2 p.value.length y2, .bool p.gone] ∧ Bs F (.slice x0 p.name.length y0) p.name ∧ Bs F (.slice x1 p.key.length y1) p.key ∧ Bs F (.slice x2 p.value.length y2) p.value
theorem PlV.mono {F F' : Fz} {v : Value} {p : Pl} (h : PlV F v p) (hl : Le F F') : PlV F' v p := by
  obtain ⟨x0, y0, x1, y1, x2, y2, rfl, h0, h1, h2⟩ := h
  exact ⟨x0, y0, x1, y1, x2, y2, rfl, h0.mono hl, h1.mono hl, h2.mono hl⟩
/-- Ft: its cells. -/
def FtC (F : Fz) (cs : List Value) (p : Ft) : Prop := ∃ a0 a1 a2, cs = [a0, a1, a2] ∧ a0 = .int .i64 p.kind ∧ a1 = .int .i64 p.a ∧ Bs F a2 p.data
theorem FtC.mono (F F' : Fz) (x : List Value) (p : Ft) (hl : Le F F') (h : FtC F x p) : FtC F' x p := by
  obtain ⟨a0, a1, a2, rfl, h0, h1, h2⟩ := h
  exact ⟨a0, a1, a2, rfl, h0, h1, h2.mono hl⟩
theorem FtC.oneCell {F : Fz} {cs : List Value} {p : Ft} (h : FtC F cs p) : ∀ u ∈ cs, u.oneCell' = true := by
  obtain ⟨a0, a1, a2, rfl, h0, h1, h2⟩ := h
  intro u hu
  simp only [List.mem_cons, List.not_mem_nil, or_false] at hu
  rcases hu with rfl | rfl | rfl
  · rw [h0]; rfl
  · rw [h1]; rfl
  · exact h2.oneCell
abbrev Fts (F : Fz) (v : Value) (l : List Ft) : Prop := Sl 3 FtC F v l
theorem Fts.mono {F F' : Fz} {v : Value} {l : List Ft} (h : Fts F v l) (hl : Le F F') : Fts F' v l := Sl.mono FtC.mono h hl
theorem Fts.oneCell {F : Fz} {v : Value} {l : List Ft} (h : Fts F v l) : v.oneCell' = true := by obtain ⟨a, c, rfl, _⟩ := Sl.shape h; rfl
theorem Fts.get {F : Fz} {a : Option Addr} {n c : Nat} {l : List Ft} (h : Fts F (.slice a n c) l) {i : Nat} {p : Ft} (hp : l[i]? = some p) :
    ∃ b o, a = some ⟨b, o, none⟩ ∧ ∃ x2 y2, cellF F b (o + i * 3) = some (.int .i64 p.kind) ∧ cellF F b (o + i * 3 + 1) = some (.int .i64 p.a) ∧ cellF F b (o + i * 3 + 2) = some (.slice x2 p.data.length y2) ∧ Bs F (.slice x2 p.data.length y2) p.data := by
  obtain ⟨hi, rfl⟩ := List.getElem?_eq_some_iff.1 hp
  have hn := Sl.len h
  obtain ⟨b, o, e, h1⟩ := Sl.at h (by omega) (by omega)
  obtain ⟨cs, q1, ⟨a0, a1, a2, rfl, h0, h1, h2⟩, q3⟩ := h1 i hi
  subst h0
  subst h1
  obtain ⟨x2, y2, rfl, _⟩ := h2.shape
  exact ⟨b, o, e, x2, y2, by have := q3 0 (by simp); simpa [Nat.add_assoc] using this, by have := q3 1 (by simp); simpa [Nat.add_assoc] using this, by have := q3 2 (by simp); simpa [Nat.add_assoc] using this, h2⟩
def FtV (F : Fz) (v : Value) (p : Ft) : Prop := ∃ x2 y2, v = .agg #[.int .i64 p.kind, .int .i64 p.a, .slice x2 p.data.length y2] ∧ Bs F (.slice x2 p.data.length y2) p.data
theorem FtV.mono {F F' : Fz} {v : Value} {p : Ft} (h : FtV F v p) (hl : Le F F') : FtV F' v p := by
  obtain ⟨x2, y2, rfl, h0⟩ := h
  exact ⟨x2, y2, rfl, h0.mono hl⟩
def Pr2V (F : Fz) (v : Value) (p : Pr) : Prop := ∃ x0 y0 x1 y1, v = .agg #[.slice x0 p.1.length y0, .slice x1 p.2.length y1] ∧ Bs F (.slice x0 p.1.length y0) p.1 ∧ Bs F (.slice x1 p.2.length y1) p.2
theorem Pr2V.mono {F F' : Fz} {v : Value} {p : Pr} (h : Pr2V F v p) (hl : Le F F') : Pr2V F' v p := by
  obtain ⟨x0, y0, x1, y1, rfl, h0, h1⟩ := h
  exact ⟨x0, y0, x1, y1, rfl, h0.mono hl, h1.mono hl⟩
/-- A call that hands back a row of its own. -/
def GivesO {α : Type} (w : World) (F : Fz) (k : Nat) (R : Fz → List Value → α → Prop) (E : Nat) (l : List α) (e : Ending) (w' : World) : Prop := ∃ v F', e = .returned v ∧ Gr w F w' F' ∧ Own k R E w.heap.size w' F' v l
theorem St.addRow {α : Type} {k E : Nat} {R : Fz → List Value → α → Prop} {hR : ∀ F F' x p, Le F F' → R F x p → R F' x p} {w0 w w' : World} {F0 F F' : Fz} {L : List Blk} {M : List RowP} {v : Value} {l : List α} (S : St w0 F0 w F L M) (g : Gr w F w' F') (ho : Own k R E w.heap.size w' F' v l) : St w0 F0 w' F' L (ownP k R hR E w0.heap.size v l :: M) := by
  have S' := S.gives g
  have hlt := ho.lt
  have ho' : Own k R E w0.heap.size w' F' v l := ho.rebase fun b hb => Nat.le_trans S.gr.below.size (hlt b hb).1
  refine ⟨S'.gr, S'.blk, fun r hr => ?_, S'.bb, fun r hr x hx => ?_, List.pairwise_cons.2 ⟨fun s hs b hb hc => ?_, S'.rr⟩⟩
  · rcases List.mem_cons.1 hr with rfl | hr
    · exact ⟨ho', fun b hb => ⟨(hlt b hb).2, ho.out b hb, Nat.le_trans S.gr.below.size (hlt b hb).1⟩⟩
    · exact S'.row r hr
  · rcases List.mem_cons.1 hr with rfl | hr
    · intro e
      have h1 := (hlt _ e).1
      have h2 := S.blk_lt hx
      omega
    · exact S'.rb r hr x hx
  · have h1 := (hlt b hb).1
    have h2 := ((S.row s hs).2 b hc).1
    omega
theorem stGivesO {P : Program} {ops : Array Oper} {Q : Exit → Act → World → Prop} {a : Act} {rest : List Oper} {o : Oper} {kf : FuncId} {vs : Array Value} {w0 w : World} {F0 F : Fz} {L : List Blk} {M : List RowP} {α : Type} {k E : Nat} {R : Fz → List Value → α → Prop} (hR : ∀ F F' x p, Le F F' → R F x p → R F' x p) {l : List α} (S : St w0 F0 w F L M) (hw : Region.wanted o (yielded ops a.tmps) = true)
    (hr : (execOp a.eval o).run P w = .ok (.enter kf vs) w) (hc : Calls P kf vs w (GivesO w F k R E l))
    (h : ∀ v w' F', St w0 F0 w' F' L (ownP k R hR E w0.heap.size v l :: M) → Le F F' → WL P ops Q rest (a.put o.dst v) w') : WL P ops Q (o :: rest) a w :=
  doC hw hr hc fun e w' ⟨v, F', he, g, ho⟩ => ⟨v, he, h v w' F' (S.addRow g ho) (g.le S.sat)⟩
/-- An owned row is read. -/
theorem own_peek {α : Type} {k E base : Nat} {R : Fz → List Value → α → Prop} {hR : ∀ F F' x p, Le F F' → R F x p → R F' x p} {w0 w : World} {F0 F : Fz} {L : List Blk} {M : List RowP} {v : Value} {l : List α} (S : St w0 F0 w F L M) {i : Nat} (h : M[i]? = some (ownP k R hR E base v l)) : ∃ F', Sat w F' ∧ Le F F' ∧ Sl k R F' v l := (S.own h).peek hR S.sat
end Go.Proofs.Ytlimmmidfhpakaa
namespace Go.Proofs.Ytlimmmidfhpakaa
open Go.RowKit
set_option linter.unusedVariables false
/-- A slice that can be read in this world. -/
def SlW {α : Type} (w : World) (F : Fz) (k : Nat) (R : Fz → List Value → α → Prop) (v : Value) (l : List α) : Prop :=
  ∃ (el : List (List Value)) (a : Option Addr) (c : Nat), v = .slice a l.length c ∧ l.length ≤ c ∧ c ≤ maxLen ∧ (a = none → l = [] ∧ c = 0) ∧ AllR (R F) el l ∧ (∀ x ∈ el, x.length = k) ∧
    (el.flatten = [] ∨ ∃ b o, a = some ⟨b, o, none⟩ ∧ ∀ j u, el.flatten[j]? = some u → w.cell? ⟨b, o + j, none⟩ = some u)
section
variable {α : Type} {w w' : World} {F F' : Fz} {k : Nat} {R : Fz → List Value → α → Prop} {v : Value} {l : List α}
theorem Sl.toW (h : Sl k R F v l) (hs : Sat w F) : SlW w F k R v l := by
  obtain ⟨el, ⟨a, c, h1, h2, h3, h4, h5⟩, h6, h7⟩ := h
  refine ⟨el, a, c, h1, h2, h3, fun e => ⟨List.eq_nil_of_length_eq_zero (h4 e).1, (h4 e).2⟩, h6, h7, h5.imp id ?_⟩
  rintro ⟨b, o, e, hc⟩
  exact ⟨b, o, e, fun j u hu => hs.cell (hc j u hu)⟩
theorem Own.toW {E base : Nat} (h : Own k R E base w F v l) : SlW w F k R v l := by
  obtain ⟨el, ⟨e1, e2⟩, h2, h3⟩ := h.ex
  rcases e2 with ⟨rfl, h0⟩ | ⟨g, cap, cur, rfl, hb, hg, q1, q2, q3, q4⟩
  · have hl : l = [] := List.eq_nil_of_length_eq_zero h0
    subst hl
    exact ⟨el, none, 0, rfl, by simp, Nat.zero_le _, fun _ => ⟨rfl, rfl⟩, h2, h3, .inl (List.eq_nil_of_length_eq_zero (by simpa using e1))⟩
  · refine ⟨el, _, cap, rfl, q1, q2, (fun e => by cases e), h2, h3, .inr ⟨g, 0, rfl, fun j u hu => ?_⟩⟩
    rw [← q4, List.getElem?_take] at hu
    split at hu
    · rw [Nat.zero_add]; simp only [World.cell?, hg]; simpa using hu
    · cases hu
theorem flatten_take {el : List (List Value)} (h3 : ∀ x ∈ el, x.length = k) (m : Nat) : (el.take m).flatten = el.flatten.take (m * k) := by
  induction el generalizing m with
  | nil => simp
  | cons x el ih =>
    cases m with
    | zero => simp
    | succ m =>
      have hx := h3 x (by simp)
      simp only [List.take_succ_cons, List.flatten_cons]
      rw [ih (fun y hy => h3 y (by simp [hy])), Nat.add_mul, Nat.one_mul, List.take_append, hx, show m * k + k - k = m * k from by omega, List.take_of_length_le (show x.length ≤ m * k + k by omega)]
theorem flatten_drop {el : List (List Value)} (h3 : ∀ x ∈ el, x.length = k) (m : Nat) : (el.drop m).flatten = el.flatten.drop (m * k) := by
  induction el generalizing m with
  | nil => simp
  | cons x el ih =>
    cases m with
    | zero => simp
    | succ m =>
      have hx := h3 x (by simp)
      simp only [List.drop_succ_cons, List.flatten_cons]
      rw [ih (fun y hy => h3 y (by simp [hy])), Nat.add_mul, Nat.one_mul, List.drop_append, hx, show m * k + k - k = m * k from by omega, List.drop_of_length_le (show x.length ≤ m * k + k by omega)]
      simp
theorem SlW.takeN {a : Option Addr} {n c m : Nat} (h : SlW w F k R (.slice a n c) l) (hm : m ≤ n) : SlW w F k R (.slice a m c) (l.take m) := by
  obtain ⟨el, a', c', h1, h2, h3, h4, h5, h6, h7⟩ := h
  cases h1
  refine ⟨el.take m, a, c, by rw [List.length_take, Nat.min_eq_left hm], by rw [List.length_take]; omega, h3, fun e => ⟨by rw [(h4 e).1]; simp, (h4 e).2⟩, h5.take m, fun x hx => h6 x (List.mem_of_mem_take hx), ?_⟩
  rw [flatten_take h6]
  refine h7.imp (fun e => by rw [e]; simp) ?_
  rintro ⟨b, o, e, hc⟩
  refine ⟨b, o, e, fun j u hu => hc j u ?_⟩
  rw [List.getElem?_take] at hu
  split at hu
  · exact hu
  · cases hu
/-- s[m:], wherever it begins. -/
theorem SlW.dropN {a : Option Addr} {n c m : Nat} (h : SlW w F k R (.slice a n c) l) (hm : m ≤ n) : SlW w F k R (.slice (if c = m then a else a.map (·.add (m * k))) (n - m) (c - m)) (l.drop m) := by
  obtain ⟨el, a', c', h1, h2, h3, h4, h5, h6, h7⟩ := h
  cases h1
  refine ⟨el.drop m, _, c - m, by rw [List.length_drop], by rw [List.length_drop]; omega, by omega, fun e => ?_, h5.drop m, fun x hx => h6 x (List.mem_of_mem_drop hx), ?_⟩
  · cases a with
    | none => obtain ⟨e1, e2⟩ := h4 rfl; subst e1; simp at hm; simp [e2]
    | some a => split at e <;> cases e
  · rw [flatten_drop h6]
    by_cases hcm : c = m
    · left
      have hll := h5.len
      have : (l.drop m) = [] := List.drop_of_length_le (by omega)
      rw [List.drop_of_length_le]
      rw [flatten_len h6, hll]
      exact Nat.mul_le_mul_right k (by omega)
    · rw [if_neg hcm]
      refine h7.imp (fun e => by rw [e]; simp) ?_
      rintro ⟨b, o, e, hc⟩
      subst e
      refine ⟨b, o + m * k, by show some (Addr.add ⟨b, o, none⟩ (m * k)) = _; rw [Addr.add_mid], fun j u hu => ?_⟩
      rw [List.getElem?_drop] at hu
      have := hc _ u hu
      rwa [← Nat.add_assoc] at this
theorem SlW.len {a : Option Addr} {n c : Nat} (h : SlW w F k R (.slice a n c) l) : n = l.length := by
  obtain ⟨el, a', c', h1, _⟩ := h; cases h1; rfl
/-- Element i: its cells. -/
theorem SlW.get {a : Option Addr} {n c : Nat} (h : SlW w F k R (.slice a n c) l) (hk : 0 < k) {i : Nat} {p : α} (hp : l[i]? = some p) : ∃ b o cs, a = some ⟨b, o, none⟩ ∧ cs.length = k ∧ R F cs p ∧ w.rangeAt b (o + i * k) cs := by
  obtain ⟨el, a', c', h1, h2, h3, h4, h5, h6, h7⟩ := h
  cases h1
  obtain ⟨hi, rfl⟩ := List.getElem?_eq_some_iff.1 hp
  have hll := h5.len
  have hne : el.flatten ≠ [] := by
    intro e
    have := congrArg List.length e
    rw [flatten_len h6, hll] at this
    have := Nat.mul_pos (show 0 < l.length by omega) hk
    simp at *
    omega
  obtain ⟨b, o, e, hc⟩ := h7.resolve_left hne
  refine ⟨b, o, el[i]'(by omega), e, h6 _ (List.getElem_mem _), h5.get i (by omega) hi, fun j u hu => ?_⟩
  have hj : j < k := by
    have := (List.getElem?_eq_some_iff.1 hu).1
    rwa [h6 _ (List.getElem_mem _)] at this
  rw [Nat.add_assoc]
  exact hc _ _ (by rw [flatten_at h6 i (by omega) j hj]; exact hu)
end
section
variable {P : Program} {w0 w w' : World} {F0 F : Fz} {L : List Blk} {M : List RowP} {α : Type} {k base E : Nat} {R : Fz → List Value → α → Prop} {hR : ∀ F F' x p, Le F F' → R F x p → R F' x p} {v : Value} {l : List α}
/-- 'append(row, slice...)'. -/
theorem stAppendS {ops : Array Oper} {Q : Exit → Act → World → Prop} {a : Act} {rest : List Oper} {d : Option Tmp} {t T : TypeId} {x s : Operand} {pos : String} {after : Array Edge} {guard : Option (Nat × Bool)}
    {u : Value} {m : List α} {r : Nat} (S : St w0 F0 w F L M) (hw : Region.wanted ⟨d, .call ⟨.builtin .append, #[s, x], #[T, T]⟩, t, pos, after, guard⟩ (yielded ops a.tmps) = true)
    (inf : TypeInfo) (z : Value) (bytes : Nat) (ht : P.underlying T = some (.slice E)) (hi : P.info? E = some inf) (hz : inf.zero = some z) (hsize : inf.size = k) (hby : inf.bytes = bytes) (hzs : z.cells.size = k) (hsz : 0 < k)
    (hs : a.eval s = v) (hx : a.eval x = u) (hM : M[r]? = some (ownP k R hR E base v l)) (hu : SlW w F k R u m) (h1 : ∀ F cs p, R F cs p → ∀ u ∈ cs, u.oneCell' = true)
    (hb : w0.heap.size ≤ base) (hb2 : base ≤ w.heap.size) (h63 : l.length + m.length ≤ maxLen) (hbytes : (l.length + m.length) * bytes ≤ 140737488355328)
    (h : ∀ v' w', St w0 F0 w' F L (M.set r (ownP k R hR E base v' (l ++ m))) → (v' = .slice none 0 0 → l = [] ∧ m = []) → WL P ops Q rest (a.put d v') w') : WL P ops Q (⟨d, .call ⟨.builtin .append, #[s, x], #[T, T]⟩, t, pos, after, guard⟩ :: rest) a w := by
  obtain ⟨el, e1, e2, e3⟩ := (S.own hM).ex
  obtain ⟨nl, ad, c, rfl, q2, q3, q4, q5, q6, q7⟩ := hu
  have hnl := q5.len
  have hflat : nl.flatten.length = m.length * k := by rw [flatten_len q6, hnl]
  have hone : ∀ u ∈ nl.flatten, u.oneCell' = true := by
    intro u hu
    obtain ⟨y, hy, huy⟩ := List.mem_flatten.1 hu
    obtain ⟨i, hi', rfl⟩ := List.mem_iff_getElem.1 hy
    exact h1 _ _ _ (q5.get i hi' (by omega)) u huy
  cases ad with
  | none =>
    obtain ⟨hm0, hc0⟩ := q4 rfl
    subst hm0
    have hrun := run_append_owned_none (P := P) w base T t E inf k ht hi v l.length el.flatten e1
    refine do_ hw v ?_ (h v w ?_ (fun e => ?_))
    · simp only [execOp, resolve, invoke, builtin, Sem.run_bind, Sem.run_pure, Result.andThen_ok, List.map_toArray, List.map_cons, List.map_nil, hs, hx]
      simp only [List.length_nil, hc0]
      rw [hrun]; rfl
    · rw [List.append_nil]
      have : M.set r (ownP k R hR E base v l) = M := by
        obtain ⟨h1, h2⟩ := List.getElem?_eq_some_iff.1 hM
        rw [← h2]; simp
      rw [this]; exact S
    · refine ⟨?_, rfl⟩
      subst e
      obtain ⟨_, ⟨_, h0⟩ | ⟨_, _, _, h0, _⟩⟩ := e1
      · exact List.eq_nil_of_length_eq_zero h0
      · cases h0
  | some ad =>
    have hnews : ∀ j u, nl.flatten[j]? = some u → w.cell? (ad.add j) = some u := by
      intro j u hu
      rcases q7 with q7 | ⟨b, o, e, hc⟩
      · rw [q7] at hu; simp at hu
      · cases e; rw [Addr.add_mid]; exact hc j u hu
    obtain ⟨v', w', hrun, h2, h3, h4, h5⟩ := run_append_own_at (P := P) w base T t E inf z k bytes ht hi hz hsize hby hzs hsz v l.length el.flatten e1 ad m.length c nl.flatten hflat hnews hone h63 hbytes hb2
    have hf : ∀ g, v'.ownBlock = some g → v.ownBlock = some g ∨ w.heap.size ≤ g := by
      intro g hg
      rcases h5 with h5 | h5
      · left; rw [← h5]; exact hg
      · right; rw [h5] at hg; cases hg; exact Nat.le_refl _
    have hout : ∀ g, v'.ownBlock = some g → F g = none := by
      intro g hg
      rcases h5 with h5 | h5
      · exact (S.own hM).out g (by rw [← h5]; exact hg)
      · rw [h5] at hg; cases hg; exact S.sat.out (Nat.le_refl _)
    have hown : Own k R E base w' F v' (l ++ m) := by
      refine ⟨⟨el ++ nl, ?_, e2.append q5, fun y hy => ?_⟩, hout⟩
      · rw [List.flatten_append, List.length_append]; exact h2
      · rcases List.mem_append.1 hy with hy | hy
        · exact e3 y hy
        · exact q6 y hy
    refine do_ hw v' ?_ (h v' w' (S.grown hM hb h3 hown hf) (fun e => ?_))
    · simp only [execOp, resolve, invoke, builtin, Sem.run_bind, Sem.run_pure, Result.andThen_ok, List.map_toArray, List.map_cons, List.map_nil, hs, hx, hrun]
    · obtain ⟨h6, h7⟩ := h4.1 e
      subst h6
      obtain ⟨_, ⟨_, h0⟩ | ⟨_, _, _, h0, _⟩⟩ := e1
      · exact ⟨List.eq_nil_of_length_eq_zero h0, List.eq_nil_of_length_eq_zero h7⟩
      · cases h0
theorem Own.form (h : Own k R E base w F v l) (hn : 0 < l.length) : ∃ g cap, v = .slice (some ⟨g, 0, none⟩) l.length cap ∧ l.length ≤ cap ∧ cap ≤ maxLen ∧ ∃ cur : Array Value, w.heap[g]? = some (.cells cur E (0, 0)) ∧ cur.size = cap * k := by
  obtain ⟨el, ⟨_, ⟨_, h0⟩ | ⟨g, cap, cur, rfl, _, hg, q1, q2, q3, q4⟩⟩, _⟩ := h.ex
  · omega
  · exact ⟨g, cap, rfl, q1, q2, cur, hg, q3⟩
theorem allR_set {xs : List (List Value)} {ps : List α} (h : AllR (R F) xs ps) {i : Nat} {x : List Value} {p : α} (hx : R F x p) : AllR (R F) (xs.set i x) (ps.set i p) := by
  refine AllR.of_get (by simp [h.len]) fun j h1 h2 => ?_
  rw [List.getElem_set, List.getElem_set]
  split
  · exact hx
  · exact h.get j (by simpa using h1) (by simpa using h2)
theorem flatten_set {el : List (List Value)} (h3 : ∀ x ∈ el, x.length = k) {i : Nat} (hi : i < el.length) {x : List Value} (hx : x.length = k) : (el.set i x).flatten = splice el.flatten (i * k) x := by
  induction el generalizing i with
  | nil => simp at hi
  | cons y el ih =>
    have hy := h3 y (by simp)
    cases i with
    | zero =>
      unfold splice
      simp [hx]
      rw [List.drop_append, hy, Nat.sub_self, List.drop_of_length_le (by omega)]
      simp
    | succ i =>
      have ih' := ih (fun z hz => h3 z (by simp [hz])) (i := i) (by simpa using hi)
      simp only [List.set_cons_succ, List.flatten_cons]
      rw [ih']
      unfold splice
      rw [hx, Nat.add_mul, Nat.one_mul, List.take_append, List.drop_append, hy, show i * k + k - k = i * k from by omega, show i * k + k + k - k = i * k + k from by omega, List.take_of_length_le (show y.length ≤ i * k + k by omega), List.drop_of_length_le (show y.length ≤ i * k + k + k by omega)]
      simp
/-- 'row[i] = x'. -/
theorem stSetRow {ops : Array Oper} {Q : Exit → Act → World → Prop} {a : Act} {rest : List Oper} {d : Option Tmp} {t T : TypeId} {x y : Operand} {pos : String} {after : Array Edge} {guard : Option (Nat × Bool)} {r g cap i o n : Nat} {u : Value} {p : α} (S : St w0 F0 w F L M)
    (hw : Region.wanted ⟨d, .store T x y, t, pos, after, guard⟩ (yielded ops a.tmps) = true) (hx : a.eval x = .pointer (some ⟨g, o, none⟩)) (ho : o = i * k) (hy : a.eval y = u) (hM : M[r]? = some (ownP k R hR E base (.slice (some ⟨g, 0, none⟩) n cap) l)) (hil : i < l.length)
    (hi : (P.info? T).map (·.size) = some u.cells.size) (h1 : u.cells.all (·.oneCell') = true) (hk : u.cells.size = k) (hp : R F u.cells.toList p) (hb : w0.heap.size ≤ base)
    (h : ∀ w', St w0 F0 w' F L (M.set r (ownP k R hR E base (.slice (some ⟨g, 0, none⟩) n cap) (l.set i p))) → WL P ops Q rest (a.put d undef) w') : WL P ops Q (⟨d, .store T x y, t, pos, after, guard⟩ :: rest) a w := by
  obtain ⟨el, ⟨e1, e2⟩, h2, h3⟩ := (S.own hM).ex
  have hll := h2.len
  subst ho
  rcases e2 with ⟨e2, _⟩ | ⟨g', cap', cur, e2, q0, hg, q1, q2, q3, q4⟩
  · cases e2
  · injection e2 with e2 e2n e2c
    injection e2 with e2
    injection e2 with e2
    subst e2; subst e2n; subst e2c
    have hcl : cur.toList.length = cap * k := by simpa using q3
    have hkl : (i + 1) * k ≤ cap * k := Nat.mul_le_mul_right k (by omega)
    have hle : i * k + u.cells.size ≤ cur.toList.length := by rw [hcl, hk]; rw [Nat.add_mul] at hkl; omega
    have ht : w.there g (i * k) u.cells.size := by
      intro j hj
      have : i * k + j < cur.size := by simp at hle; omega
      exact ⟨by simp [World.cell?, hg, this], by simp [World.frozen?, hg]⟩
    have hst := storeV (P := P) (T := T) (v := u) hi ht h1
    have hm0 := (List.getElem?_eq_some_iff.1 hM)
    have hgrown : w.grownBy (w.setCells g (i * k) u.cells.toList) (Value.slice (some ⟨g, 0, none⟩) l.length cap).ownBlock := by
      have hb' := below_setCells (B := 0) (Nat.zero_le g) u.cells.toList (i * k) w w (Below.refl 0 w)
      exact ⟨hb'.os, hb'.tape, hb'.output, hb'.size, fun b hb1 hb2 => heap_setCells_past _ _ _ (fun e => hb2 (by rw [e]; rfl))⟩
    have hheap := heap_setCells (n := g) (T := E) (fr := (0, 0)) u.cells.toList (i * k) w cur.toList (by simpa using hg) (by simpa using hle)
    have hown : Own k R E base (w.setCells g (i * k) u.cells.toList) F (.slice (some ⟨g, 0, none⟩) l.length cap) (l.set i p) := by
      refine ⟨⟨el.set i u.cells.toList, ⟨?_, .inr ⟨g, cap, _, by rw [List.length_set], q0, hheap, by rw [List.length_set]; exact q1, q2, ?_, ?_⟩⟩, allR_set h2 hp, fun y hy => ?_⟩, (S.own hM).out⟩
      · rw [flatten_len (fun y hy => ?_), List.length_set, List.length_set, hll]
        rcases List.mem_or_eq_of_mem_set hy with hy | rfl
        · exact h3 y hy
        · simpa using hk
      · rw [List.size_toArray, splice_len (by simpa using hle), hcl]
      · rw [List.length_set, flatten_set h3 (by omega) (by simpa using hk), ← q4]
        unfold splice
        have hx' : u.cells.toList.length = k := by simpa using hk
        have hkk : i * k + k ≤ l.length * k := by have := Nat.mul_le_mul_right k (show i + 1 ≤ l.length by omega); rw [Nat.add_mul] at this; omega
        have hcl2 : cap * k ≤ cur.toList.length := by omega
        have hlk : l.length * k ≤ cap * k := Nat.mul_le_mul_right k q1
        apply List.ext_getElem?
        intro j
        simp only [List.getElem?_append, List.getElem?_take, List.getElem?_drop, List.length_take, List.length_append, hx']
        grind
      · rcases List.mem_or_eq_of_mem_set hy with hy | rfl
        · exact h3 y hy
        · simpa using hk
    refine doS hw (ex_store hx (by rw [hy]; exact hst)) (h _ (S.grown hM hb hgrown hown (fun g' hg' => .inl hg')))
end
end Go.Proofs.Ytlimmmidfhpakaa
namespace Go.Proofs.Ytlimmmidfhpakaa
open Go.RowKit
set_option linter.unusedVariables false
section
variable {P : Program} {w0 w w' : World} {F0 F : Fz} {L : List Blk} {M : List RowP} {α : Type} {k base E : Nat} {R : Fz → List Value → α → Prop} {hR : ∀ F F' x p, Le F F' → R F x p → R F' x p} {v : Value} {l : List α}
theorem St.other (S : St w0 F0 w F L M) {r : Nat} {p : RowP} (hM : M[r]? = some p) : ∀ s ∈ M.eraseIdx r, ∀ g, p.ob = some g → s.ob ≠ some g := by
  obtain ⟨hi, he⟩ := List.getElem?_eq_some_iff.1 hM
  intro s hs g hg hc
  obtain ⟨k', hk, rfl⟩ := List.mem_iff_getElem.1 hs
  have hp := List.pairwise_iff_getElem.1 S.rr
  rw [List.length_eraseIdx, if_pos hi] at hk
  rw [List.getElem_eraseIdx] at hc
  split at hc
  · rename_i hlt
    have := hp k' r (by omega) hi hlt g hc; rw [he] at this; exact this hg
  · rename_i hge
    have := hp r (k' + 1) hi (by omega) (by omega) g (by rw [he]; exact hg); exact this hc
/-- A row of the call's own as a block whose cells are known. -/
theorem St.rowBlk {r g n cap : Nat} (S : St w0 F0 w F L M) (hM : M[r]? = some (ownP k R hR E base (.slice (some ⟨g, 0, none⟩) n cap) l)) :
    ∃ c el, St w0 F0 w F (⟨g, c, E⟩ :: L) (M.eraseIdx r) ∧ n = l.length ∧ n ≤ cap ∧ cap ≤ maxLen ∧ c.length = cap * k ∧ c.take (n * k) = el.flatten ∧ AllR (R F) el l ∧ (∀ x ∈ el, x.length = k) ∧ base ≤ g := by
  have hown := S.own hM
  obtain ⟨hi, he⟩ := List.getElem?_eq_some_iff.1 hM
  have hm : ownP k R hR E base (.slice (some ⟨g, 0, none⟩) n cap) l ∈ M := by rw [← he]; exact List.getElem_mem hi
  obtain ⟨el, ⟨e1, e2⟩, h2, h3⟩ := hown.ex
  have hsub := List.eraseIdx_sublist M r
  have hr0 := (S.row _ hm).2 g rfl
  rcases e2 with ⟨e2, _⟩ | ⟨g', cap', cur, e2, q0, hg, q1, q2, q3, q4⟩
  · cases e2
  · injection e2 with e2 e2n e2c
    injection e2 with e2
    injection e2 with e2
    subst e2; subst e2n; subst e2c
    refine ⟨cur.toList, el, ⟨S.gr, fun x hx => ?_, fun s hs => S.row s (hsub.subset hs), ?_, fun s hs x hx => ?_, S.rr.sublist hsub⟩, rfl, q1, q2, by simpa using q3, q4, h2, h3, q0⟩
    · rcases List.mem_cons.1 hx with rfl | hx
      · exact ⟨by simpa using hg, hr0.2.1, hr0.2.2⟩
      · exact S.blk x hx
    · exact List.pairwise_cons.2 ⟨fun x hx e => S.rb _ hm x hx (congrArg some e), S.bb⟩
    · rcases List.mem_cons.1 hx with rfl | hx
      · exact S.other hM s hs g rfl
      · exact S.rb s (hsub.subset hs) x hx
theorem St.blkRow {g cap : Nat} {c : List Value} (S : St w0 F0 w F (⟨g, c, E⟩ :: L) M) {el : List (List Value)} (hc : c.take (l.length * k) = el.flatten) (h2 : AllR (R F) el l) (h3 : ∀ x ∈ el, x.length = k) (h4 : c.length = cap * k) (h5 : l.length ≤ cap) (h6 : cap ≤ maxLen) (hb : base ≤ g) : St w0 F0 w F L (ownP k R hR E base (.slice (some ⟨g, 0, none⟩) l.length cap) l :: M) := by
  have hb0 := S.blk ⟨g, c, E⟩ (by simp)
  have hbb := List.pairwise_cons.1 S.bb
  refine ⟨S.gr, fun x hx => S.blk x (by simp [hx]), fun r hr => ?_, hbb.2, fun r hr x hx => ?_, List.pairwise_cons.2 ⟨fun s hs b hb' hc' => ?_, S.rr⟩⟩
  · rcases List.mem_cons.1 hr with rfl | hr
    · refine ⟨⟨⟨el, ⟨?_, .inr ⟨g, cap, c.toArray, rfl, hb, hb0.1, h5, h6, by simpa using h4, by simpa using hc⟩⟩, h2, h3⟩, fun b e => ?_⟩, fun b e => ?_⟩
      · rw [flatten_len h3, h2.len]
      · cases e; exact hb0.2.1
      · cases e; exact ⟨S.blk_lt (x := ⟨g, c, E⟩) (by simp), hb0.2⟩
    · exact S.row r hr
  · rcases List.mem_cons.1 hr with rfl | hr
    · intro e; cases e; exact hbb.1 x hx rfl
    · exact S.rb r hr x (by simp [hx])
  · cases hb'; exact S.rb s hs ⟨g, c, E⟩ (by simp) hc'
theorem run_copyN (w : World) (dT sT ty elem : TypeId) (b o dLen dCap k : Nat) (a : Addr) (sLen sCap m : Nat) (cs : List Value)
    (hu : P.underlying dT = some (.slice elem)) (hs : (P.info? elem).map (·.size) = some k) (hn : Nat.min sLen dLen = m) (hl : cs.length = m * k)
    (hsrc : ∀ j v, cs[j]? = some v → w.cell? (a.add j) = some v) (ht : w.there b o cs.length) (h1 : ∀ v ∈ cs, v.oneCell' = true) :
    (Builtin.copy_ #[dT, sT] ty #[.slice (some ⟨b, o, none⟩) dLen dCap, .slice (some a) sLen sCap]).run P w = .ok (.int .i64 (m : Int)) (w.setCells b o cs) := by
  have hf := run_firstCells_some (P := P) w k m a sLen sCap cs hl hsrc
  have hst := run_storeCells_cells (P := P) b o cs 0 w (fun j hj => by simpa using (ht j hj).1) (fun j hj => by simpa using (ht j hj).2) h1
  cases hq : P.info? elem with
  | none => simp [hq] at hs
  | some i =>
    have hi : i.size = k := by simpa [hq] using hs
    simp [Builtin.copy_, run_underlying hu, Builtin.lenOf, sizeOf, typeInfo, hq, hi, hn, hf, hst]
    rfl
/-- 'copy' into a block of the call's own. -/
theorem stCopy {ops : Array Oper} {Q : Exit → Act → World → Prop} {a : Act} {rest : List Oper} {d : Option Tmp} {t dT sT elem : TypeId} {x y : Operand} {pos : String} {after : Array Edge} {guard : Option (Nat × Bool)} {i g j dl dc sl sc : Nat} {T : TypeId} {c : List Value} {ad : Addr} (m : Nat) (cs : List Value) (S : St w0 F0 w F L M)
    (hw : Region.wanted ⟨d, .call ⟨.builtin .copy, #[x, y], #[dT, sT]⟩, t, pos, after, guard⟩ (yielded ops a.tmps) = true) (hu : P.underlying dT = some (.slice elem)) (hz : (P.info? elem).map (·.size) = some k)
    (hx : a.eval x = .slice (some ⟨g, j, none⟩) dl dc) (hy : a.eval y = .slice (some ad) sl sc) (hL : L[i]? = some ⟨g, c, T⟩) (hm : Nat.min sl dl = m) (hl : cs.length = m * k) (hfit : j + cs.length ≤ c.length)
    (hsrc : ∀ q u, cs[q]? = some u → w.cell? (ad.add q) = some u) (h1 : ∀ u ∈ cs, u.oneCell' = true)
    (h : ∀ w', St w0 F0 w' F (L.set i ⟨g, splice c j cs, T⟩) M → WL P ops Q rest (a.put d (.int .i64 (m : Int))) w') : WL P ops Q (⟨d, .call ⟨.builtin .copy, #[x, y], #[dT, sT]⟩, t, pos, after, guard⟩ :: rest) a w := by
  have hrun := run_copyN (P := P) w dT sT t elem g j dl dc k ad sl sc m cs hu hz hm hl hsrc (S.there hL j cs.length hfit) h1
  refine do_ hw _ ?_ (h _ (S.store hL j cs hfit))
  simp only [execOp, resolve, invoke, builtin, Sem.run_bind, Sem.run_pure, Result.andThen_ok, List.map_toArray, List.map_cons, List.map_nil, hx, hy, hrun]
theorem run_clearN (w : World) (t e ty : TypeId) (z : Value) (ht : P.underlying t = some (.slice e)) (hv : ∀ w, (zeroValue e).run P w = .ok z w) (b o n c : Nat) (zs : List Value) (hz : (Builtin.zeroCells z.cells n).toList = zs) (hn : 0 < n)
    (hth : w.there b o zs.length) (h1 : ∀ v ∈ zs, v.oneCell' = true) :
    (Builtin.clear_ #[t] ty #[.slice (some ⟨b, o, none⟩) n c]).run P w = .ok (.tuple #[]) (w.setCells b o zs) := by
  have hst := run_storeCells_cells (P := P) b o zs 0 w (fun j hj => by simpa using (hth j hj).1) (fun j hj => by simpa using (hth j hj).2) h1
  simp only [Nat.add_zero] at hst
  obtain ⟨m, rfl⟩ : ∃ m, n = m + 1 := ⟨n - 1, by omega⟩
  simp [Builtin.clear_, run_underlying ht, hv, hz, hst]
/-- 'clear' in a block of the call's own. -/
theorem stClear {ops : Array Oper} {Q : Exit → Act → World → Prop} {a : Act} {rest : List Oper} {d : Option Tmp} {t sT elem : TypeId} {x : Operand} {pos : String} {after : Array Edge} {guard : Option (Nat × Bool)} {i g j n cp : Nat} {T : TypeId} {c : List Value} (z : Value) (zs : List Value) (S : St w0 F0 w F L M)
    (hw : Region.wanted ⟨d, .call ⟨.builtin .clear, #[x], #[sT]⟩, t, pos, after, guard⟩ (yielded ops a.tmps) = true) (hu : P.underlying sT = some (.slice elem)) (hv : ∀ w, (zeroValue elem).run P w = .ok z w) (hz : (Builtin.zeroCells z.cells n).toList = zs)
    (hx : a.eval x = .slice (some ⟨g, j, none⟩) n cp) (hn : 0 < n) (hL : L[i]? = some ⟨g, c, T⟩) (hfit : j + zs.length ≤ c.length) (h1 : ∀ u ∈ zs, u.oneCell' = true)
    (h : ∀ w', St w0 F0 w' F (L.set i ⟨g, splice c j zs, T⟩) M → WL P ops Q rest (a.put d (.tuple #[])) w') : WL P ops Q (⟨d, .call ⟨.builtin .clear, #[x], #[sT]⟩, t, pos, after, guard⟩ :: rest) a w := by
  have hrun := run_clearN (P := P) w sT elem t z hu hv g j n cp zs hz hn (S.there hL j zs.length hfit) h1
  refine do_ hw _ ?_ (h _ (S.store hL j zs hfit))
  simp only [execOp, resolve, invoke, builtin, Sem.run_bind, Sem.run_pure, Result.andThen_ok, List.map_toArray, List.map_cons, List.map_nil, hx, hrun]
/-- 'append(s, make([]T, m)...)' where there is no room: a new block. -/
theorem stGrow {ops : Array Oper} {Q : Exit → Act → World → Prop} {a : Act} {rest : List Oper} {d : Option Tmp} {t T I E : TypeId} {x s : Operand} {pos : String} {after : Array Edge} {guard : Option (Nat × Bool)} {n m cap : Nat} {b : Addr} (nm : Nat) (olds : List Value) (S : St w0 F0 w F L M)
    (hw : Region.wanted ⟨d, .call ⟨.builtin .append, #[s, x], #[T, I]⟩, t, pos, after, guard⟩ (yielded ops a.tmps) = true)
    (inf : TypeInfo) (z : Value) (bytes : Nat) (ht : P.underlying T = some (.slice E)) (htI : P.underlying I = some (.int .i64)) (hi : P.info? E = some inf) (hz : inf.zero = some z) (hsize : inf.size = k) (hby : inf.bytes = bytes) (hzs : z.cells.size = k) (hk : 0 < k)
    (hs : a.eval s = .slice (some b) n cap) (hx : a.eval x = .int .i64 (m : Int)) (hm : 0 < m) (hlo : olds.length = n * k) (ho : ∀ q u, olds[q]? = some u → w.cell? (b.add q) = some u)
    (hnm : n + m = nm) (hgrow : cap < nm) (h63 : nm ≤ maxLen) (hbytes : nm * bytes ≤ 140737488355328)
    (h : ∀ g cap' news more w', nm ≤ cap' → cap' ≤ maxLen → news.length = m * k → (olds ++ news ++ more).length = cap' * k → St w0 F0 w' F (⟨g, olds ++ news ++ more, E⟩ :: L) M → WL P ops Q rest (a.put d (.slice (some ⟨g, 0, none⟩) nm cap')) w') : WL P ops Q (⟨d, .call ⟨.builtin .append, #[s, x], #[T, I]⟩, t, pos, after, guard⟩ :: rest) a w := by
  subst hnm
  subst hsize
  subst hby
  have hsmall : n + m ≤ 9223372036854775807 := by simp only [maxLen] at h63; omega
  have hold := run_firstCells_some (P := P) w.drew inf.size n b n cap olds hlo ho
  have hmb : m * inf.bytes ≤ 281474976710656 := by
    have := Nat.mul_le_mul_right inf.bytes (show m ≤ n + m by omega)
    omega
  have hrun := Lib.run_append_grow_zeros (P := P) w T I t E inf z .i64 .i64 ht htI hi hz (some b) n cap olds hold m hm hk hgrow (by omega) hmb (growslice_fits hgrow hbytes)
  have hge := grownCap_ge w (n + m) cap E
  have hcm : grownCap w (n + m) cap E ≤ maxLen := grownCap_le_maxLen w (n + m) cap E h63
  have S2 := (S.tells (show Below w.heap.size w w.drew from (Below.refl _ _).drew)).alloc (olds.toArray ++ Builtin.zeroCells z.cells m ++ Builtin.zeroCells z.cells (grownCap w (n + m) cap E - (n + m))) E
  have e : (olds.toArray ++ Builtin.zeroCells z.cells m ++ Builtin.zeroCells z.cells (grownCap w (n + m) cap E - (n + m))).toList = olds ++ (Builtin.zeroCells z.cells m).toList ++ (Builtin.zeroCells z.cells (grownCap w (n + m) cap E - (n + m))).toList := by simp
  rw [e] at S2
  have hnl : (Builtin.zeroCells z.cells m).toList.length = m * inf.size := by rw [Array.length_toList, size_zeroCells, hzs]
  refine do_ hw _ ?_ (h _ _ _ _ _ hge hcm hnl ?_ S2)
  · simp only [execOp, resolve, invoke, builtin, Sem.run_bind, Sem.run_pure, Result.andThen_ok, List.map_toArray, List.map_cons, List.map_nil, hs, hx, hrun]
    rfl
  · have hzl : (Builtin.zeroCells z.cells (grownCap w (n + m) cap E - (n + m))).toList.length = (grownCap w (n + m) cap E - (n + m)) * inf.size := by rw [Array.length_toList, size_zeroCells, hzs]
    rw [List.length_append, List.length_append, hlo, hnl, hzl, ← Nat.add_mul, ← Nat.add_mul]
    congr 1
    omega
/-- 'append' where there is room, onto a block of the call's own. -/
theorem stRoom {ops : Array Oper} {Q : Exit → Act → World → Prop} {a : Act} {rest : List Oper} {d : Option Tmp} {t T E : TypeId} {x s : Operand} {pos : String} {after : Array Edge} {guard : Option (Nat × Bool)} {i g n m cap cp : Nat} {ad : Addr} {c : List Value} {T' : TypeId} (nm : Nat) (news : List Value) (S : St w0 F0 w F L M)
    (hw : Region.wanted ⟨d, .call ⟨.builtin .append, #[s, x], #[T, T]⟩, t, pos, after, guard⟩ (yielded ops a.tmps) = true)
    (inf : TypeInfo) (ht : P.underlying T = some (.slice E)) (hi : P.info? E = some inf) (hsize : inf.size = k)
    (hs : a.eval s = .slice (some ⟨g, 0, none⟩) n cap) (hx : a.eval x = .slice (some ad) m cp) (hL : L[i]? = some ⟨g, c, T'⟩) (hln : news.length = m * k) (hn : ∀ q u, news[q]? = some u → w.cell? (ad.add q) = some u) (h1 : ∀ u ∈ news, u.oneCell' = true)
    (hnm : n + m = nm) (hroom : nm ≤ cap) (hfit : n * k + news.length ≤ c.length)
    (h : ∀ w', St w0 F0 w' F (L.set i ⟨g, splice c (n * k) news, T'⟩) M → WL P ops Q rest (a.put d (.slice (some ⟨g, 0, none⟩) nm cap)) w') : WL P ops Q (⟨d, .call ⟨.builtin .append, #[s, x], #[T, T]⟩, t, pos, after, guard⟩ :: rest) a w := by
  subst hnm
  subst hsize
  have ht0 := S.there hL (n * inf.size) news.length hfit
  have hrun := run_append_room_cells (P := P) w T t E inf ht hi g 0 n cap ad m cp news hln hn h1 hroom (fun j hj => by simpa using (ht0 j hj).1) (fun j hj => by simpa using (ht0 j hj).2)
  rw [Nat.zero_add] at hrun
  refine do_ hw _ ?_ (h _ (S.store hL (n * inf.size) news hfit))
  simp only [execOp, resolve, invoke, builtin, Sem.run_bind, Sem.run_pure, Result.andThen_ok, List.map_toArray, List.map_cons, List.map_nil, hs, hx, hrun]
end
/-- A call that turns the caller's own. -/
theorem stOwn {P : Program} {w0 w : World} {F0 F : Fz} {ops : Array Oper} {Q : Exit → Act → World → Prop} {a : Act} {rest : List Oper} {o : Oper} {k : FuncId} {vs : Array Value} {L : List Blk} {M : Value → List RowP} (hw : Region.wanted o (yielded ops a.tmps) = true)
    (hr : (execOp a.eval o).run P w = .ok (.enter k vs) w) (hc : Calls P k vs w fun e w' => ∃ v, e = .returned v ∧ St w0 F0 w' F L (M v))
    (h : ∀ v w', St w0 F0 w' F L (M v) → WL P ops Q rest (a.put o.dst v) w') : WL P ops Q (o :: rest) a w :=
  doC hw hr hc fun e w' ⟨v, he, hS⟩ => ⟨v, he, h v w' hS⟩
end Go.Proofs.Ytlimmmidfhpakaa
namespace Go.Proofs.Ytlimmmidfhpakaa
open Go.RowKit
section
variable {k i n : Nat} {c zs vs : List Value} {el : List (List Value)}
theorem cut_ins (A B K : Nat) (hA : A ≤ B) (hc : B + K ≤ c.length) (hv : vs.length = K) :
    (splice (splice c (A + K) ((c.drop A).take (B - A))) A vs).take (B + K) = (c.take B).take A ++ (vs ++ (c.take B).drop A) := by
  unfold splice
  apply List.ext_getElem?
  intro j
  simp only [List.getElem?_append, List.getElem?_take, List.getElem?_drop, List.length_take, List.length_drop, List.length_append, hv]
  grind
theorem cut_grow (A B K : Nat) (hA : A ≤ B) {x : List Value} (hB : B ≤ c.length) (hx : x.length = B + K - A) {more : List Value} (hv : vs.length = K) :
    (splice (splice (c.take A ++ x ++ more) A vs) (A + K) ((c.drop A).take (B - A))).take (B + K) = (c.take B).take A ++ (vs ++ (c.take B).drop A) := by
  unfold splice
  apply List.ext_getElem?
  intro j
  simp only [List.getElem?_append, List.getElem?_take, List.getElem?_drop, List.length_take, List.length_drop, List.length_append, hv, hx]
  grind
theorem cut_del (A B K : Nat) (hA : A + K ≤ B) (hc : B ≤ c.length) (hz : zs.length = K) :
    (splice (splice c A ((c.drop (A + K)).take (B - (A + K)))) (B - K) zs).take (B - K) = (c.take B).take A ++ (c.take B).drop (A + K) := by
  unfold splice
  apply List.ext_getElem?
  intro j
  simp only [List.getElem?_append, List.getElem?_take, List.getElem?_drop, List.length_take, List.length_drop, List.length_append, hz]
  grind
variable (h3 : ∀ x ∈ el, x.length = k) (hc : c.take (n * k) = el.flatten)
include h3 hc
theorem cells_ins (hi : i ≤ n) (hl : (n + 1) * k ≤ c.length) (hv : vs.length = k) :
    (splice (splice c ((i + 1) * k) ((c.drop (i * k)).take ((n - i) * k))) (i * k) vs).take ((n + 1) * k) = (el.take i ++ vs :: el.drop i).flatten := by
  have hA : i * k ≤ n * k := Nat.mul_le_mul_right k hi
  have := cut_ins (c := c) (vs := vs) (i * k) (n * k) k hA (by rw [Nat.add_mul, Nat.one_mul] at hl; exact hl) hv
  rw [Nat.add_mul, Nat.one_mul, Nat.sub_mul, Nat.add_mul, Nat.one_mul, this, hc, List.flatten_append, List.flatten_cons, flatten_take h3, flatten_drop h3]
theorem cells_grow (hi : i ≤ n) (hl : n * k ≤ c.length) {x more : List Value} (hx : x.length = (n + 1 - i) * k) (hv : vs.length = k) :
    (splice (splice (c.take (i * k) ++ x ++ more) (i * k) vs) ((i + 1) * k) ((c.drop (i * k)).take ((n - i) * k))).take ((n + 1) * k) = (el.take i ++ vs :: el.drop i).flatten := by
  have hA : i * k ≤ n * k := Nat.mul_le_mul_right k hi
  have := cut_grow (c := c) (vs := vs) (x := x) (more := more) (i * k) (n * k) k hA hl (by rw [hx, Nat.sub_mul, Nat.add_mul, Nat.one_mul]) hv
  rw [Nat.add_mul, Nat.one_mul, Nat.sub_mul, Nat.add_mul, Nat.one_mul, this, hc, List.flatten_append, List.flatten_cons, flatten_take h3, flatten_drop h3]
theorem cells_del (hi : i < n) (hl : n * k ≤ c.length) (hz : zs.length = k) :
    (splice (splice c (i * k) ((c.drop ((i + 1) * k)).take ((n - (i + 1)) * k))) ((n - 1) * k) zs).take ((n - 1) * k) = (el.take i ++ el.drop (i + 1)).flatten := by
  have hA : (i + 1) * k ≤ n * k := Nat.mul_le_mul_right k hi
  rw [Nat.add_mul, Nat.one_mul] at hA
  have := cut_del (c := c) (zs := zs) (i * k) (n * k) k hA hl hz
  rw [Nat.add_mul, Nat.one_mul, Nat.sub_mul, Nat.sub_mul, Nat.add_mul, Nat.one_mul, this, hc, List.flatten_append, flatten_take h3, flatten_drop h3, Nat.add_mul, Nat.one_mul]
end
theorem St.src {w0 w : World} {F0 F : Fz} {L : List Blk} {M : List RowP} (S : St w0 F0 w F L M) {i n : Nat} {c : List Value} {T : TypeId} (hL : L[i]? = some ⟨n, c, T⟩) (j m : Nat) : ∀ q u, ((c.drop j).take m)[q]? = some u → w.cell? ((⟨n, j, none⟩ : Addr).add q) = some u := by
  intro q u hu
  rw [Addr.add_mid]
  rw [List.getElem?_take] at hu
  split at hu
  · rw [List.getElem?_drop] at hu
    exact S.cell hL hu
  · cases hu
theorem St.src0 {w0 w : World} {F0 F : Fz} {L : List Blk} {M : List RowP} (S : St w0 F0 w F L M) {i n : Nat} {c : List Value} {T : TypeId} (hL : L[i]? = some ⟨n, c, T⟩) : ∀ q u, c[q]? = some u → w.cell? ((⟨n, 0, none⟩ : Addr).add q) = some u := by
  intro q u hu
  rw [Addr.add_mid, Nat.zero_add]
  exact S.cell hL hu
theorem St.srcT {w0 w : World} {F0 F : Fz} {L : List Blk} {M : List RowP} (S : St w0 F0 w F L M) {i n : Nat} {c : List Value} {T : TypeId} (hL : L[i]? = some ⟨n, c, T⟩) (m : Nat) : ∀ q u, (c.take m)[q]? = some u → w.cell? ((⟨n, 0, none⟩ : Addr).add q) = some u := by
  intro q u hu
  rw [Addr.add_mid, Nat.zero_add]
  rw [List.getElem?_take] at hu
  split at hu
  · exact S.cell hL hu
  · cases hu
theorem one_mid {α : Type} {R : Fz → List Value → α → Prop} {F : Fz} {k : Nat} {c : List Value} {el : List (List Value)} {l : List α} (hone : ∀ F cs p, R F cs p → ∀ u ∈ cs, u.oneCell' = true) (hall : AllR (R F) el l) (hc : c.take (l.length * k) = el.flatten) (i : Nat) : ∀ u ∈ (c.drop (i * k)).take ((l.length - i) * k), u.oneCell' = true := by
  intro u hu
  have e : (c.drop (i * k)).take ((l.length - i) * k) = el.flatten.drop (i * k) := by
    rw [← hc, List.drop_take, Nat.sub_mul]
  rw [e] at hu
  obtain ⟨y, hy, huy⟩ := List.mem_flatten.1 (List.mem_of_mem_drop hu)
  obtain ⟨j, hj, rfl⟩ := List.mem_iff_getElem.1 hy
  exact hone _ _ _ (hall.get j hj (by rw [← hall.len]; exact hj)) u huy
theorem allR_insert {α : Type} {R : List Value → α → Prop} {xs : List (List Value)} {ps : List α} (h : AllR R xs ps) (i : Nat) {x : List Value} {p : α} (hx : R x p) : AllR R (xs.take i ++ x :: xs.drop i) (ps.take i ++ p :: ps.drop i) := (h.take i).append ⟨hx, h.drop i⟩
theorem allR_delete {α : Type} {R : List Value → α → Prop} {xs : List (List Value)} {ps : List α} (h : AllR R xs ps) (i : Nat) : AllR R (xs.take i ++ xs.drop (i + 1)) (ps.take i ++ ps.drop (i + 1)) := (h.take i).append (h.drop (i + 1))
theorem len_insert {el : List (List Value)} {k : Nat} (h : ∀ x ∈ el, x.length = k) (i : Nat) {x : List Value} (hx : x.length = k) : ∀ y ∈ el.take i ++ x :: el.drop i, y.length = k := by
  intro y hy
  rcases List.mem_append.1 hy with hy | hy
  · exact h y (List.mem_of_mem_take hy)
  · rcases List.mem_cons.1 hy with rfl | hy
    · exact hx
    · exact h y (List.mem_of_mem_drop hy)
theorem len_delete {el : List (List Value)} {k : Nat} (h : ∀ x ∈ el, x.length = k) (i : Nat) : ∀ y ∈ el.take i ++ el.drop (i + 1), y.length = k := by
  intro y hy
  rcases List.mem_append.1 hy with hy | hy
  · exact h y (List.mem_of_mem_take hy)
  · exact h y (List.mem_of_mem_drop hy)
end Go.Proofs.Ytlimmmidfhpakaa
namespace Go.Proofs.Ytlimmmidfhpakaa
open Go.RowKit
set_option linter.unusedVariables false
section
variable {P : Program} {ρ : Operand → Value} {w : World} {d : Option Tmp} {t X Y : TypeId} {pos : String} {after : Array Edge} {guard : Option (Nat × Bool)} {x y : Operand} {l m : List UInt8}
def strB (op : BinOp) (l m : List UInt8) : Bool := match op with | .lss => Op.bytesLess l m | .leq => Op.bytesLess l m || l == m | .gtr => !(Op.bytesLess l m || l == m) | .geq => !Op.bytesLess l m | .eql => l == m | _ => !(l == m)
theorem ex_strop {op : BinOp} {b : Bool} (hop : op = .lss ∨ op = .leq ∨ op = .gtr ∨ op = .geq ∨ op = .eql ∨ op = .neq) (hx : ρ x = .string ⟨l.toArray⟩) (hy : ρ y = .string ⟨m.toArray⟩)
    (h : strB op l m = b) :
    (execOp ρ ⟨d, .binOp op X x y Y, t, pos, after, guard⟩).run P w = .ok (.value (.bool b)) w := by
  subst h
  have e : (eqGuard op X x y (.string ⟨l.toArray⟩) (.string ⟨m.toArray⟩)).run P w = .ok () w := by
    unfold eqGuard
    rcases hop with rfl | rfl | rfl | rfl | rfl | rfl <;> rfl
  have e2 : (binOp op X (.string ⟨l.toArray⟩) (.string ⟨m.toArray⟩)).run P w = .ok (.bool (strB op l m)) w := by
    rcases hop with rfl | rfl | rfl | rfl | rfl | rfl <;> simp [binOp, Op.stringOp, strB]
  simp only [execOp, hx, hy, Sem.run_bind, e, Result.andThen_ok, e2, Sem.run_pure]
theorem ex_convert {v r : Value} (hx : ρ x = v) (h : (convert X Y v).run P w = .ok r w) : (execOp ρ ⟨d, .convert X Y x, t, pos, after, guard⟩).run P w = .ok (.value r) w := by
  subst hx
  simp only [execOp, Sem.run_bind, h, Result.andThen_ok, Sem.run_pure]
end
section
variable {P : Program} {ρ : Operand → Value} {w : World} {d : Option Tmp} {t X T : TypeId} {pos : String} {after : Array Edge} {guard : Option (Nat × Bool)} {x y : Operand} {k : IntKind} {m n r : Int}
theorem ex_cap {E : TypeId} {A : Option Addr} {l c : Nat} (hT : P.underlying T = some (.slice E)) (h : ρ x = .slice A l c) : (execOp ρ ⟨d, .call ⟨.builtin .cap, #[x], #[T]⟩, t, pos, after, guard⟩).run P w = .ok (.value (.int .i64 c)) w := by
  simp [execOp, resolve, invoke, builtin, Builtin.cap_, h, run_underlying hT w]; rfl
theorem ex_min {U : TypeId} (hx : ρ x = .int k m) (hy : ρ y = .int k n) (e : (if n < m then n else m) = r) : (execOp ρ ⟨d, .call ⟨.builtin .min, #[x, y], #[T, U]⟩, t, pos, after, guard⟩).run P w = .ok (.value (.int k r)) w := by
  subst e
  simp [execOp, resolve, invoke, builtin, Builtin.min_, Builtin.min2, hx, hy]
/-- x[l:h:m] -/
theorem ex_slice3 {E : TypeId} {A : Option Addr} {n c : Nat} {lo hi mx : Operand} {l h m : Nat} {sz : Nat} {v : Value} (hX : P.underlying X = some (.slice E)) (hx : ρ x = .slice A n c) (hsz : (sizeOf E).run P w = .ok sz w)
    (hl : ρ lo = .int .i64 l) (hh : ρ hi = .int .i64 h) (hm : ρ mx = .int .i64 m) (h1 : l ≤ h) (h2 : h ≤ m) (h3 : m ≤ c)
    (hv : v = .slice (if m = l then A else A.map (·.add (l * sz))) (h - l) (m - l)) : (execOp ρ ⟨d, .slice X x (some lo) (some hi) (some mx), t, pos, after, guard⟩).run P w = .ok (.value v) w := by
  subst hv
  have b1 : ∀ (z y : Nat) (code : BoundsCode), z ≤ y → (Instr.sliceBound (.int .i64 z) y code).run P w = .ok z w := by
    intro z y code hzy
    have : (0 : Int) ≤ (z : Int) ∧ (z : Int) ≤ (y : Int) := by omega
    simp [Instr.sliceBound, asIntOf, this]
  have hb : (Instr.sliceBounds true n c (some (ρ lo)) (some (ρ hi)) (some (ρ mx))).run P w = .ok (l, h, m) w := by
    simp [Instr.sliceBounds, hl, hh, hm, b1 _ _ _ h1, b1 _ _ _ h2, b1 _ _ _ h3]
  have hs : (Instr.sliceAt X (.slice A n c) (some (ρ lo)) (some (ρ hi)) (some (ρ mx))).run P w = .ok (.slice (if m = l then A else A.map (·.add (l * sz))) (h - l) (m - l)) w := by
    simp [Instr.sliceAt, Sem.run_bind, run_underlying hX w, Instr.slice, hb, hsz]
  simp [execOp, hx, hs]
end
/-- A block of structs that is done with. -/
theorem sl_of_block {α : Type} {k : Nat} {R : Fz → List Value → α → Prop} {F : Fz} {n : Nat} {c : List Value} {el : List (List Value)} {l : List α} (h : ∀ j v, c[j]? = some v → cellF F n j = some v) (e : c = el.flatten) (hR : AllR (R F) el l) (hk : ∀ x ∈ el, x.length = k) (hl : l.length ≤ maxLen) : Sl k R F (.slice (some ⟨n, 0, none⟩) l.length l.length) l := by
  subst e
  exact ⟨el, Rw.of_cells (Nat.le_refl _) hl fun j u hu => by rw [Nat.zero_add]; exact h j u hu, hR, hk⟩
end Go.Proofs.Ytlimmmidfhpakaa
