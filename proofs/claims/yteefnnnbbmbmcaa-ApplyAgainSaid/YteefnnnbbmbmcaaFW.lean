/- Rules for a walk that keeps count of the memory that is the call's own. No program in sight. -/
import Derived.Test.YteefnnnbbmbmcaaS1
import Derived.Test.YteefnnnbbmbmcaaG
import Derived.Deep.MidRow
namespace Go.Proofs.Yteefnnnbbmbmcaa
open Go.RowKit
set_option linter.unusedVariables false

/-- A block of the call's own, known whole. -/
structure Blk where
  n : Nat
  c : List Value
  t : TypeId
/-- What is told of a row (or whatever else) that lies in a block of the call's own. -/
structure RowP where
  ob : Option Nat
  holds : World → Fz → Prop
  stable : ∀ w w' F F', holds w F → (∀ g, ob = some g → w'.heap[g]? = w.heap[g]?) → Le F F' → (∀ g, ob = some g → F' g = none) → holds w' F'
structure St (w0 : World) (F0 : Fz) (w : World) (F : Fz) (L : List Blk) (M : List RowP) : Prop where
  gr : Gr w0 F0 w F
  blk : ∀ x ∈ L, w.heap[x.n]? = some (.cells x.c.toArray x.t (0, 0)) ∧ F x.n = none ∧ w0.heap.size ≤ x.n
  row : ∀ r ∈ M, r.holds w F ∧ ∀ g, r.ob = some g → g < w.heap.size ∧ F g = none ∧ w0.heap.size ≤ g
  bb : L.Pairwise fun x y => x.n ≠ y.n
  rb : ∀ r ∈ M, ∀ x ∈ L, r.ob ≠ some x.n
  rr : M.Pairwise fun r s => ∀ g, r.ob = some g → s.ob ≠ some g
section
variable {w0 w w' : World} {F0 F F' : Fz} {L : List Blk} {M : List RowP}
theorem St.sat (S : St w0 F0 w F L M) : Sat w F := S.gr.sat
theorem St.start (hs : Sat w F) : St w F w F [] [] := ⟨Gr.refl hs, by simp, by simp, by simp, by simp, by simp⟩
theorem St.blk_lt (S : St w0 F0 w F L M) {x : Blk} (h : x ∈ L) : x.n < w.heap.size := (Array.getElem?_eq_some_iff.1 (S.blk x h).1).1
theorem St.mem {i : Nat} {x : Blk} (h : L[i]? = some x) : x ∈ L := by obtain ⟨h1, rfl⟩ := List.getElem?_eq_some_iff.1 h; exact List.getElem_mem h1
theorem St.cell (S : St w0 F0 w F L M) {i : Nat} {n : Nat} {c : List Value} {t : TypeId} (h : L[i]? = some ⟨n, c, t⟩) {j : Nat} {v : Value} (hv : c[j]? = some v) : w.cell? ⟨n, j, none⟩ = some v := by
  have := (S.blk _ (St.mem h)).1
  simp only at this
  simp [World.cell?, this, hv]
theorem St.range (S : St w0 F0 w F L M) {i : Nat} {n : Nat} {c : List Value} {t : TypeId} (h : L[i]? = some ⟨n, c, t⟩) (j : Nat) (cs : List Value) (hv : ∀ (k : Nat) v, cs[k]? = some v → c[j + k]? = some v) : w.rangeAt n j cs := fun k v hk => S.cell h (hv k v hk)
theorem St.fz (S : St w0 F0 w F L M) {b o : Nat} {v : Value} (h : cellF F b o = some v) : w.cell? ⟨b, o, none⟩ = some v := S.sat.cell h
/-- A call that makes something leaves what is the caller's own. -/
theorem St.gives (S : St w0 F0 w F L M) (g : Gr w F w' F') : St w0 F0 w' F' L M :=
  ⟨S.gr.trans g, fun x hx => ⟨(g.below.block _ (S.blk_lt hx)).trans (S.blk x hx).1, g.none (S.blk_lt hx) (S.blk x hx).2.1, (S.blk x hx).2.2⟩,
    fun r hr => ⟨r.stable _ _ _ _ (S.row r hr).1 (fun b hb => g.below.block _ ((S.row r hr).2 b hb).1) (g.le S.sat) (fun b hb => g.none ((S.row r hr).2 b hb).1 ((S.row r hr).2 b hb).2.1),
      fun b hb => ⟨Nat.lt_of_lt_of_le ((S.row r hr).2 b hb).1 g.below.size, g.none ((S.row r hr).2 b hb).1 ((S.row r hr).2 b hb).2.1, ((S.row r hr).2 b hb).2.2⟩⟩, S.bb, S.rb, S.rr⟩
theorem St.tells (S : St w0 F0 w F L M) (h : Below w.heap.size w w') : St w0 F0 w' F L M := S.gives (Gr.of_below S.sat h)
theorem St.alloc (S : St w0 F0 w F L M) (cs : Array Value) (T : TypeId) : St w0 F0 (w.alloc (.cells cs T)) F (⟨w.heap.size, cs.toList, T⟩ :: L) M := by
  have S' := S.gives ((Gr.refl S.sat).new (.cells cs T))
  refine ⟨S'.gr, fun x hx => ?_, S'.row, ?_, fun r hr x hx => ?_, S.rr⟩
  · rcases List.mem_cons.1 hx with rfl | hx
    · exact ⟨heap_new_at w _ rfl, S.sat.out (Nat.le_refl _), S.gr.below.size⟩
    · exact S'.blk x hx
  · refine List.pairwise_cons.2 ⟨fun y hy => ?_, S.bb⟩
    have := S.blk_lt hy
    simp only
    omega
  · rcases List.mem_cons.1 hx with rfl | hx
    · intro e
      have := ((S.row r hr).2 _ e).1
      simp at this
    · exact S.rb r hr x hx
def splice (c : List Value) (j : Nat) (vs : List Value) : List Value := c.take j ++ vs ++ c.drop (j + vs.length)
theorem splice_len {c vs : List Value} {j : Nat} (h : j + vs.length ≤ c.length) : (splice c j vs).length = c.length := by unfold splice; simp; omega
theorem heap_setCells {n : Nat} {T : TypeId} {fr : Nat × Nat} : ∀ (vs : List Value) (j : Nat) (w : World) (c : List Value), w.heap[n]? = some (.cells c.toArray T fr) → j + vs.length ≤ c.length → (w.setCells n j vs).heap[n]? = some (.cells (splice c j vs).toArray T fr)
  | [], j, w, c, h, _ => by simp [World.setCells, splice, h]
  | v :: vs, j, w, c, h, hl => by
    simp only [List.length_cons] at hl
    have h1 : (w.setCell ⟨n, j, none⟩ v).heap[n]? = some (.cells (c.set j v).toArray T fr) := by
      rw [heap_set_at h]; simp
    have h2 := heap_setCells vs (j + 1) (w.setCell ⟨n, j, none⟩ v) (c.set j v) h1 (by simp; omega)
    simp only [World.setCells]
    rw [h2]
    have e : splice (c.set j v) (j + 1) vs = splice c j (v :: vs) := ?_
    · rw [e]
    unfold splice
    apply List.ext_getElem?
    intro m
    simp only [List.getElem?_append, List.getElem?_take, List.length_take, List.length_set, List.length_append, List.getElem?_drop, List.length_cons, List.getElem?_set, List.getElem?_cons]
    grind
theorem heap_setCells_past {n : Nat} : ∀ (vs : List Value) (j : Nat) (w : World) {b : Nat}, b ≠ n → (w.setCells n j vs).heap[b]? = w.heap[b]?
  | [], _, _, _, _ => rfl
  | v :: vs, j, w, b, h => by
    simp only [World.setCells]
    rw [heap_setCells_past vs (j + 1) _ h]
    exact Below.heap_setCell w _ v b h
theorem below_setCells {B n : Nat} (hB : B ≤ n) : ∀ (vs : List Value) (j : Nat) (a w : World), Below B a w → Below B a (w.setCells n j vs)
  | [], _, _, _, h => h
  | v :: vs, j, a, w, h => below_setCells hB vs (j + 1) a _ (h.setCell hB v)
theorem size_setCells {n : Nat} : ∀ (vs : List Value) (j : Nat) (w : World), (w.setCells n j vs).heap.size = w.heap.size
  | [], _, _ => rfl
  | v :: vs, j, w => by simp only [World.setCells]; rw [size_setCells vs]; simp
theorem sat_setCells {n : Nat} (hn : F n = none) : ∀ (vs : List Value) (j : Nat) (w : World), Sat w F → Sat (w.setCells n j vs) F
  | [], _, _, h => h
  | v :: vs, j, w, h => sat_setCells hn vs (j + 1) _ (h.setCell hn v)
theorem St.store (S : St w0 F0 w F L M) {i n : Nat} {c : List Value} {t : TypeId} (h : L[i]? = some ⟨n, c, t⟩) (j : Nat) (vs : List Value) (hl : j + vs.length ≤ c.length) : St w0 F0 (w.setCells n j vs) F (L.set i ⟨n, splice c j vs, t⟩) M := by
  obtain ⟨hi, he⟩ := List.getElem?_eq_some_iff.1 h
  obtain ⟨b1, b2, b3⟩ := S.blk _ (St.mem h)
  simp only at b1 b2 b3
  have hne : ∀ k (hk : k < L.length), k ≠ i → L[k].n ≠ n := by
    intro k hk hki
    have hp := List.pairwise_iff_getElem.1 S.bb
    rcases Nat.lt_or_gt_of_ne hki with h1 | h1
    · have := hp k i hk hi h1; rw [he] at this; exact this
    · have := hp i k hi hk h1; rw [he] at this; exact this.symm
  refine ⟨⟨below_setCells b3 vs j _ _ S.gr.below, S.gr.old, sat_setCells b2 vs j w S.sat⟩, fun x hx => ?_, fun r hr => ?_, ?_, fun r hr x hx => ?_, S.rr⟩
  · obtain ⟨k, hk, rfl⟩ := List.mem_iff_getElem.1 hx
    rw [List.getElem_set]
    split
    · exact ⟨heap_setCells vs j w c b1 hl, b2, b3⟩
    · rename_i hki
      have hk' : k < L.length := by simpa using hk
      have := S.blk _ (List.getElem_mem hk')
      exact ⟨(heap_setCells_past vs j w (hne k hk' (fun e => hki e.symm))).trans this.1, this.2⟩
  · have hr1 := S.row r hr
    have hn : ∀ g, r.ob = some g → g ≠ n := fun g hg e => S.rb r hr _ (St.mem h) (by rw [hg, e])
    exact ⟨r.stable _ _ _ _ hr1.1 (fun g hg => heap_setCells_past vs j w (hn g hg)) (Le.refl _) (fun g hg => (hr1.2 g hg).2.1), fun g hg => ⟨by rw [size_setCells]; exact (hr1.2 g hg).1, (hr1.2 g hg).2⟩⟩
  · refine List.pairwise_iff_getElem.2 fun k m hk hm hkm => ?_
    have hk' : k < L.length := by simpa using hk
    have hm' : m < L.length := by simpa using hm
    have hp := List.pairwise_iff_getElem.1 S.bb k m hk' hm' hkm
    rw [List.getElem_set, List.getElem_set]
    split
    · split
      · omega
      · exact (hne m hm' (by omega)).symm
    · split
      · exact hne k hk' (by omega)
      · exact hp
  · obtain ⟨k, hk, rfl⟩ := List.mem_iff_getElem.1 hx
    have hk' : k < L.length := by simpa using hk
    rw [List.getElem_set]
    split
    · exact S.rb r hr ⟨n, c, t⟩ (St.mem h)
    · exact S.rb r hr _ (List.getElem_mem hk')
theorem St.there (S : St w0 F0 w F L M) {i n : Nat} {c : List Value} {t : TypeId} (h : L[i]? = some ⟨n, c, t⟩) (j k : Nat) (hl : j + k ≤ c.length) : w.there n j k := fun m hm => by
  have := (S.blk _ (St.mem h)).1
  simp only at this
  have hm' : j + m < c.length := by omega
  exact ⟨by simp [World.cell?, this, hm'], by simp [World.frozen?, this]⟩
/-- Fewer blocks are followed. -/
theorem St.drop (S : St w0 F0 w F L M) {L' : List Blk} (h : L'.Sublist L) : St w0 F0 w F L' M := ⟨S.gr, fun x hx => S.blk x (h.subset hx), S.row, S.bb.sublist h, fun r hr x hx => S.rb r hr x (h.subset hx), S.rr⟩
theorem St.dropRow (S : St w0 F0 w F L M) {M' : List RowP} (h : M'.Sublist M) : St w0 F0 w F L M' := ⟨S.gr, S.blk, fun x hx => S.row x (h.subset hx), S.bb, fun r hr => S.rb r (h.subset hr), S.rr.sublist h⟩
/-- A block of the call's own becomes a part of what no more changes. -/
theorem St.freezeBlk (S : St w0 F0 w F L M) {i n : Nat} {c : List Value} {t : TypeId} (h : L[i]? = some ⟨n, c, t⟩) : St w0 F0 w (addF F w n) (L.eraseIdx i) M ∧ Le F (addF F w n) ∧ ∀ j v, c[j]? = some v → cellF (addF F w n) n j = some v := by
  obtain ⟨hi, he⟩ := List.getElem?_eq_some_iff.1 h
  obtain ⟨b1, b2, b3⟩ := S.blk _ (St.mem h)
  simp only at b1 b2 b3
  have hsub := List.eraseIdx_sublist L i
  have hne : ∀ x ∈ L.eraseIdx i, x.n ≠ n := by
    intro x hx
    obtain ⟨k, hk, rfl⟩ := List.mem_iff_getElem.1 hx
    have hp := List.pairwise_iff_getElem.1 S.bb
    rw [List.length_eraseIdx] at hk
    rw [List.getElem_eraseIdx]
    split
    · rename_i hlt
      have := hp k i (by omega) hi hlt
      rw [he] at this; exact this
    · rename_i hge
      rw [if_pos hi] at hk
      have := hp i (k + 1) hi (by omega) (by omega)
      rw [he] at this; exact this.symm
  have hle : Le F (addF F w n) := fun b o hb => addF_le _ _ _ _ _ hb
  refine ⟨⟨S.gr.add b3, fun x hx => ?_, fun r hr => ?_, S.bb.sublist hsub, fun r hr x hx => S.rb r hr x (hsub.subset hx), S.rr⟩, hle, fun j v hv => ?_⟩
  · have := S.blk x (hsub.subset hx)
    exact ⟨this.1, by rw [addF_old (hne x hx)]; exact this.2.1, this.2.2⟩
  · have hr1 := S.row r hr
    have hn : ∀ g, r.ob = some g → addF F w n g = none := fun g hg => by
      rw [addF_old (fun e => S.rb r hr _ (St.mem h) (by rw [hg, e]))]
      exact (hr1.2 g hg).2.1
    exact ⟨r.stable _ _ _ _ hr1.1 (fun _ _ => rfl) hle hn, fun g hg => ⟨(hr1.2 g hg).1, hn g hg, (hr1.2 g hg).2.2⟩⟩
  · unfold cellF addF
    simp [b2, b1, hv]
end
/-- An owned row, as such a thing. -/
def ownP {α : Type} (k : Nat) (R : Fz → List Value → α → Prop) (hR : ∀ F F' x p, Le F F' → R F x p → R F' x p) (E base : Nat) (v : Value) (l : List α) : RowP where
  ob := v.ownBlock
  holds w F := Own k R E base w F v l
  stable := by
    intro w w' F F' h hh hl hn
    obtain ⟨el, ⟨e1, e2⟩, h2, h3⟩ := h.ex
    refine ⟨⟨el, ⟨e1, e2.imp id ?_⟩, h2.imp fun x p => hR _ _ x p hl, h3⟩, hn⟩
    rintro ⟨b, cap, cur, q1, q2, q3, q4⟩
    subst q1
    exact ⟨b, cap, cur, rfl, q2, (hh b rfl).trans q3, q4⟩
section
variable {w0 w w' : World} {F0 F F' : Fz} {L : List Blk} {M : List RowP} {α : Type} {k E base : Nat} {R : Fz → List Value → α → Prop} {hR : ∀ F F' x p, Le F F' → R F x p → R F' x p} {v : Value} {l : List α}
theorem St.own (S : St w0 F0 w F L M) {i : Nat} (h : M[i]? = some (ownP k R hR E base v l)) : Own k R E base w F v l := by
  obtain ⟨h1, h2⟩ := List.getElem?_eq_some_iff.1 h
  have := (S.row _ (List.getElem_mem h1)).1
  rw [h2] at this
  exact this
theorem St.addNil (S : St w0 F0 w F L M) (k : Nat) (R : Fz → List Value → α → Prop) (hR : ∀ F F' x p, Le F F' → R F x p → R F' x p) (E base : Nat) : St w0 F0 w F L (ownP k R hR E base (.slice none 0 0) [] :: M) :=
  ⟨S.gr, S.blk, fun r hr => by
    rcases List.mem_cons.1 hr with rfl | hr
    · exact ⟨Own.nil w F, fun g hg => by cases hg⟩
    · exact S.row r hr, S.bb, fun r hr x hx => by
    rcases List.mem_cons.1 hr with rfl | hr
    · intro h
      cases h
    · exact S.rb r hr x hx, List.pairwise_cons.2 ⟨fun s _ g hg => (by cases hg), S.rr⟩⟩
theorem pairwise_set_row {M : List RowP} {i : Nat} {r' : RowP} (h : M.Pairwise fun r s => ∀ g, r.ob = some g → s.ob ≠ some g) (hi : ∀ k (hk : k < M.length), k ≠ i → ∀ g, r'.ob = some g → M[k].ob ≠ some g) : (M.set i r').Pairwise fun r s => ∀ g, r.ob = some g → s.ob ≠ some g := by
  rw [List.pairwise_iff_getElem] at h ⊢
  intro a b ha hb hab
  simp only [List.length_set] at ha hb
  rw [List.getElem_set, List.getElem_set]
  split
  · split
    · omega
    · intro g hg; exact hi b hb (by omega) g hg
  · split
    · intro g hg hg'; exact hi a ha (by omega) g hg' hg
    · exact h a b ha hb hab
/-- The row has grown. -/
theorem St.grown (S : St w0 F0 w F L M) {i : Nat} (h : M[i]? = some (ownP k R hR E base v l)) (hb : w0.heap.size ≤ base) {v' : Value} {l' : List α} (hg : w.grownBy w' v.ownBlock) (ho : Own k R E base w' F v' l') (hf : ∀ g, v'.ownBlock = some g → v.ownBlock = some g ∨ w.heap.size ≤ g) : St w0 F0 w' F L (M.set i (ownP k R hR E base v' l')) := by
  obtain ⟨hi, he⟩ := List.getElem?_eq_some_iff.1 h
  have hm : ownP k R hR E base v l ∈ M := by rw [← he]; exact List.getElem_mem hi
  have hown := S.own h
  have hr0 := S.row _ hm
  have hlt := ho.lt
  have hother : ∀ k' (hk : k' < M.length), k' ≠ i → ∀ g, v'.ownBlock = some g → M[k'].ob ≠ some g := by
    intro k' hk hne g hg' hc
    rcases hf g hg' with h1 | h1
    · have hp := List.pairwise_iff_getElem.1 S.rr
      rcases Nat.lt_or_gt_of_ne hne with h2 | h2
      · have := hp k' i hk hi h2 g hc; rw [he] at this; exact this h1
      · have := hp i k' hi hk h2 g (by rw [he]; exact h1); exact this hc
    · have := ((S.row _ (List.getElem_mem hk)).2 g hc).1
      omega
  refine ⟨S.gr.grown hg (fun g hg' => ⟨(hr0.2 g hg').2.2, (hr0.2 g hg').2.1⟩), fun x hx => ?_, fun r hr => ?_, S.bb, fun r hr x hx => ?_, pairwise_set_row S.rr hother⟩
  · have := S.blk x hx
    have hne : v.ownBlock ≠ some x.n := S.rb _ hm x hx
    exact ⟨(hg.block _ (S.blk_lt hx) (fun e => hne e.symm)).trans this.1, this.2⟩
  · obtain ⟨k', hk, rfl⟩ := List.mem_iff_getElem.1 hr
    have hk' : k' < M.length := by simpa using hk
    rw [List.getElem_set]
    split
    · refine ⟨ho, fun g hg' => ⟨(hlt g hg').2, ho.out g hg', Nat.le_trans hb (hlt g hg').1⟩⟩
    · rename_i hki
      have hr1 := S.row _ (List.getElem_mem hk')
      have hne : ∀ g, M[k'].ob = some g → v.ownBlock ≠ some g := fun g hg' hv => by
        have hp := List.pairwise_iff_getElem.1 S.rr
        rcases Nat.lt_or_gt_of_ne (fun e => hki e.symm : k' ≠ i) with h2 | h2
        · have := hp k' i hk' hi h2 g hg'; rw [he] at this; exact this hv
        · have := hp i k' hi hk' h2 g (by rw [he]; exact hv); exact this hg'
      exact ⟨RowP.stable _ _ _ _ _ hr1.1 (fun g hg' => hg.block _ (hr1.2 g hg').1 (fun e => hne g hg' e.symm)) (Le.refl _) (fun g hg' => (hr1.2 g hg').2.1), fun g hg' => ⟨Nat.lt_of_lt_of_le (hr1.2 g hg').1 hg.size, (hr1.2 g hg').2⟩⟩
  · obtain ⟨k', hk, rfl⟩ := List.mem_iff_getElem.1 hr
    have hk' : k' < M.length := by simpa using hk
    rw [List.getElem_set]
    split
    · intro e
      rcases hf x.n e with h1 | h1
      · exact S.rb _ hm x hx h1
      · have := S.blk_lt hx; omega
    · exact S.rb _ (List.getElem_mem hk') x hx
/-- The row is done with. -/
theorem St.freeze (S : St w0 F0 w F L M) {i : Nat} (h : M[i]? = some (ownP k R hR E base v l)) (hb : w0.heap.size ≤ base) : ∃ F', St w0 F0 w F' L (M.eraseIdx i) ∧ Le F F' ∧ Sl k R F' v l := by
  obtain ⟨hi, he⟩ := List.getElem?_eq_some_iff.1 h
  have hm : ownP k R hR E base v l ∈ M := by rw [← he]; exact List.getElem_mem hi
  have hown := S.own h
  obtain ⟨el, h1, h2, h3⟩ := hown.ex
  have hsub := List.eraseIdx_sublist M i
  have hother : ∀ r ∈ M.eraseIdx i, ∀ g, v.ownBlock = some g → r.ob ≠ some g := by
    intro r hr g hg hc
    obtain ⟨k', hk, rfl⟩ := List.mem_iff_getElem.1 hr
    have hp := List.pairwise_iff_getElem.1 S.rr
    rw [List.length_eraseIdx, if_pos hi] at hk
    rw [List.getElem_eraseIdx] at hc
    split at hc
    · rename_i hlt
      have := hp k' i (by omega) hi hlt g hc; rw [he] at this; exact this hg
    · have := hp i (k' + 1) hi (by omega) (by omega) g (by rw [he]; exact hg); exact this hc
  rcases h1.2 with ⟨hv, hn⟩ | ⟨g, cap, cur, hv, q2, q3, q4⟩
  · have hl : l = [] := List.eq_nil_of_length_eq_zero hn
    subst hl
    subst hv
    exact ⟨F, ⟨S.gr, S.blk, fun r hr => S.row r (hsub.subset hr), S.bb, fun r hr => S.rb r (hsub.subset hr), S.rr.sublist hsub⟩, Le.refl _, Sl.nil k R F⟩
  · have hle : Le F (addF F w g) := fun b o hb => addF_le _ _ _ _ _ hb
    have hr0 := (S.row _ hm).2 g (by show v.ownBlock = _; rw [hv]; rfl)
    have hF : addF F w g g = some (.cells cur E (0, 0)) := by unfold addF; rw [hr0.2.1]; simp [q3]
    refine ⟨addF F w g, ⟨S.gr.add hr0.2.2, fun x hx => ?_, fun r hr => ?_, S.bb, fun r hr => S.rb r (hsub.subset hr), S.rr.sublist hsub⟩, hle, el, ?_, h2.imp fun x p => hR _ _ x p hle, h3⟩
    · have := S.blk x hx
      have hne : x.n ≠ g := fun e => S.rb _ hm x hx (by show v.ownBlock = _; rw [hv, e]; rfl)
      exact ⟨this.1, by rw [addF_old hne]; exact this.2.1, this.2.2⟩
    · have hr1 := S.row r (hsub.subset hr)
      have hn : ∀ b, r.ob = some b → addF F w g b = none := fun b hb' => by
        rw [addF_old (fun e => hother r hr g (by rw [hv]; rfl) (by rw [hb', e]))]
        exact (hr1.2 b hb').2.1
      exact ⟨r.stable _ _ _ _ hr1.1 (fun _ _ => rfl) hle hn, fun b hb' => ⟨(hr1.2 b hb').1, hn b hb', (hr1.2 b hb').2.2⟩⟩
    · subst hv
      refine Rw.of_cells q4.1 q4.2.1 fun j u hu => ?_
      rw [← q4.2.2.2, List.getElem?_take] at hu
      split at hu
      · unfold cellF; rw [hF, Nat.zero_add]; simpa using hu
      · cases hu
end
end Go.Proofs.Yteefnnnbbmbmcaa
