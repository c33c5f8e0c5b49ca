/- Rows of structs: what no more changes, and what the call still owns. No program in sight. -/
import Derived.Test.YteefnnnbbmbmcaaR
import Derived.Deep.AppendLies
namespace Go.Proofs.Yteefnnnbbmbmcaa
open Go.RowKit

theorem Gr.grown {w w1 w2 : World} {F F1 : Fz} {row : Option Nat} (h : Gr w F w1 F1) (hg : w1.grownBy w2 row) (hr : ∀ g, row = some g → w.heap.size ≤ g ∧ F1 g = none) : Gr w F w2 F1 :=
  ⟨h.below.grown hg h.below.size (fun k hk => (hr k hk).1), h.old, h.sat.grown hg (fun k hk => (hr k hk).2)⟩
theorem Gr.none {w w' : World} {F F' : Fz} (h : Gr w F w' F') {g : Nat} (hg : g < w.heap.size) (hn : F g = none) : F' g = none := by rw [h.old g hg]; exact hn
theorem Gr.of_alloc {w0 w : World} {F0 F : Fz} (h : Gr w0 F0 w F) (o : Obj) : Gr w0 F0 (w.alloc o) F := h.new o
/-- A row that the call owns: its elements are told by R. -/
structure Own {α : Type} (k : Nat) (R : Fz → List Value → α → Prop) (E base : Nat) (w : World) (F : Fz) (v : Value) (l : List α) : Prop where
  ex : ∃ el : List (List Value), w.ownsRow base E k v l.length el.flatten ∧ AllR (R F) el l ∧ ∀ x ∈ el, x.length = k
  out : ∀ g, v.ownBlock = some g → F g = none
section
variable {α : Type} {k E base : Nat} {R : Fz → List Value → α → Prop} {w w' : World} {F F' : Fz} {v : Value} {l : List α}
theorem Own.nil (w : World) (F : Fz) : Own k R E base w F (.slice none 0 0) [] := ⟨⟨[], World.ownsRow_nil w base E k, trivial, by simp⟩, fun g h => by cases h⟩
theorem Own.lt (h : Own k R E base w F v l) : ∀ g, v.ownBlock = some g → base ≤ g ∧ g < w.heap.size := by
  obtain ⟨el, h1, _⟩ := h.ex
  exact h1.lt
theorem Own.shape (h : Own k R E base w F v l) : ∃ a c, v = .slice a l.length c ∧ l.length ≤ c ∧ c ≤ maxLen := by
  obtain ⟨el, ⟨_, h2⟩, _⟩ := h.ex
  rcases h2 with ⟨rfl, h0⟩ | ⟨g, cap, cur, rfl, _, _, h3, h4, _⟩
  · exact ⟨none, 0, by rw [h0], by omega, Nat.zero_le _⟩
  · exact ⟨_, cap, rfl, h3, h4⟩
theorem Own.mono (hR : ∀ F F' x p, Le F F' → R F x p → R F' x p) (h : Own k R E base w F v l) (hl : Le F F') (ho : ∀ g, v.ownBlock = some g → F' g = none) : Own k R E base w F' v l := by
  obtain ⟨el, h1, h2, h3⟩ := h.ex
  exact ⟨⟨el, h1, h2.imp fun x p => hR _ _ x p hl, h3⟩, ho⟩
/-- A call leaves the row alone. -/
theorem Own.gr (hR : ∀ F F' x p, Le F F' → R F x p → R F' x p) (h : Own k R E base w F v l) (hs : Sat w F) (g : Gr w F w' F') : Own k R E base w' F' v l := by
  obtain ⟨el, h1, h2, h3⟩ := h.ex
  have hlt := h1.lt
  refine ⟨⟨el, ?_, h2.imp fun x p => hR _ _ x p (g.le hs), h3⟩, fun b hb => g.none (hlt b hb).2 (h.out b hb)⟩
  obtain ⟨e1, e2⟩ := h1
  refine ⟨e1, e2.imp id ?_⟩
  rintro ⟨b, cap, cur, q1, q2, q3, q4⟩
  subst q1
  exact ⟨b, cap, cur, rfl, q2, (g.below.block b (hlt b rfl).2).trans q3, q4⟩
theorem Own.alloc (h : Own k R E base w F v l) (o : Obj) : Own k R E base (w.alloc o) F v l := by
  obtain ⟨el, h1, h2, h3⟩ := h.ex
  exact ⟨⟨el, h1.alloc o, h2, h3⟩, h.out⟩
theorem Own.drew (h : Own k R E base w F v l) : Own k R E base w.drew F v l := ⟨h.ex, h.out⟩
theorem Own.set (h : Own k R E base w F v l) (a : Addr) (u : Value) (ha : v.ownBlock ≠ some a.block) : Own k R E base (w.setCell a u) F v l := by
  obtain ⟨el, ⟨e1, e2⟩, h2, h3⟩ := h.ex
  refine ⟨⟨el, ⟨e1, e2.imp id ?_⟩, h2, h3⟩, h.out⟩
  rintro ⟨b, cap, cur, q1, q2, q3, q4⟩
  subst q1
  exact ⟨b, cap, cur, rfl, q2, heap_set_past q3 (fun e => ha (by rw [e]; rfl)) u, q4⟩
theorem Own.rebase {base' : Nat} (h : Own k R E base w F v l) (hb : ∀ g, v.ownBlock = some g → base' ≤ g) : Own k R E base' w F v l := by
  obtain ⟨el, ⟨e1, e2⟩, h2, h3⟩ := h.ex
  refine ⟨⟨el, ⟨e1, e2.imp id ?_⟩, h2, h3⟩, h.out⟩
  rintro ⟨b, cap, cur, q1, q2, q3, q4⟩
  subst q1
  exact ⟨b, cap, cur, rfl, hb b rfl, q3, q4⟩
theorem rw_of_owns {xs : List Value} {n : Nat} (h : w.ownsRow base E k v n xs) (hs : Sat w F) : ∃ g, Rw (addF F w g) v n xs ∧ (base ≤ g ∨ addF F w g = F) := by
  obtain ⟨g, q1, q2⟩ := Rw.of_owns h hs
  rcases q2 with rfl | q2
  · obtain ⟨e1, ⟨_, e2⟩ | ⟨_, _, _, e2, _⟩⟩ := h
    · subst e2
      have : xs = [] := List.eq_nil_of_length_eq_zero (by simpa using e1)
      subst this
      refine ⟨w.heap.size, Rw.nil _, .inr ?_⟩
      funext b
      unfold addF
      cases hb : F b with
      | none =>
        simp only []
        split
        · rename_i e; subst e; simp
        · rfl
      | some o => rfl
    · cases e2
  · exact ⟨g, q1, .inl q2⟩
/-- The row is done with: it no more changes. -/
theorem Own.freeze (hR : ∀ F F' x p, Le F F' → R F x p → R F' x p) {w0 : World} {F0 : Fz} (h : Own k R E base w F v l) (g : Gr w0 F0 w F) (hb : w0.heap.size ≤ base) : ∃ F', Gr w0 F0 w F' ∧ Le F F' ∧ Sl k R F' v l := by
  obtain ⟨el, h1, h2, h3⟩ := h.ex
  obtain ⟨b, q1, q2⟩ := rw_of_owns h1 g.sat
  have hle : Le F (addF F w b) := fun b' o hb' => addF_le _ _ _ _ _ hb'
  refine ⟨_, ?_, hle, el, q1, h2.imp fun x p => hR _ _ x p hle, h3⟩
  rcases q2 with q2 | q2
  · exact g.add (Nat.le_trans hb q2)
  · rw [q2]; exact g
/-- The row as it stands, for one who only reads. -/
theorem Own.peek (hR : ∀ F F' x p, Le F F' → R F x p → R F' x p) (h : Own k R E base w F v l) (hs : Sat w F) : ∃ F', Sat w F' ∧ Le F F' ∧ Sl k R F' v l := by
  obtain ⟨el, h1, h2, h3⟩ := h.ex
  obtain ⟨b, q1, q2⟩ := rw_of_owns h1 hs
  have hle : Le F (addF F w b) := fun b' o hb' => addF_le _ _ _ _ _ hb'
  exact ⟨_, hs.addF b, hle, el, q1, h2.imp fun x p => hR _ _ x p hle, h3⟩
/-- 'append(out, x)': the element's cells lie in a block of their own. -/
theorem wpList_push {P : Program} {ops : Array Oper} {rest : List Oper} {o : Oper} {a : Act} {Q : Exit → Act → World → Prop} (hgd : o.guard = none) (s x : Operand) (t : TypeId)
    (ho : o.op = .call { callee := .builtin .append, args := #[s, x], argTypes := #[t, t] })
    (i : TypeInfo) (z : Value) (bytes : Nat) (ht : P.underlying t = some (.slice E)) (hi : P.info? E = some i) (hz : i.zero = some z)
    (hsize : i.size = k) (hby : i.bytes = bytes) (hzs : z.cells.size = k) (hsz : 0 < k)
    (hv : a.eval s = v) (hown : Own k R E base w F v l) (hs : Sat w F) {n c : Nat} {cs : List Value} {T : TypeId} {fr : Nat × Nat} {p : α}
    (hx : a.eval x = .slice (some ⟨n, 0, none⟩) 1 c) (hb : w.heap[n]? = some (.cells cs.toArray T fr)) (hl : cs.length = k) (h1 : ∀ u ∈ cs, u.oneCell' = true) (hp : R F cs p)
    (h63 : l.length + 1 ≤ maxLen) (hbytes : (l.length + 1) * bytes ≤ 140737488355328) (hbase : base ≤ w.heap.size)
    (h : ∀ v' w', Own k R E base w' F v' (l ++ [p]) → w.grownBy w' v.ownBlock → Sat w' F → v' ≠ .slice none 0 0 → wpList P ops Q rest (a.put o.dst v') w') : wpList P ops Q (o :: rest) a w := by
  obtain ⟨el, e1, e2, e3⟩ := hown.ex
  have hlt := hown.lt
  refine wpList_append_lies w hgd s x t ho base E i z k bytes ht hi hz hsize hby hzs hsz v l.length el.flatten hv e1 ⟨n, 0, none⟩ 1 c cs hx (by rw [hl]; omega) (fun j u hu => World.news_of_block hb j u (by simpa using hu)) h1 (by omega) h63 hbytes hbase w.heap.size rfl ?_
  intro g cap w' q1 q2 q3 q4
  refine h _ w' ⟨⟨el ++ [cs], ?_, e2.append ⟨hp, trivial⟩, fun y hy => ?_⟩, fun b hb' => ?_⟩ q2 (hs.grown q2 (fun b hb' => hown.out b hb')) (by intro h; cases h)
  · rw [List.flatten_append, List.length_append]
    simpa using q1
  · rcases List.mem_append.1 hy with hy | hy
    · exact e3 y hy
    · rw [List.mem_singleton.1 hy]; exact hl
  · cases hb'
    rcases q3 with q3 | q3
    · exact hown.out _ q3
    · subst q3
      exact hs.out (Nat.le_refl _)
/-- What the row's growing leaves alone. -/
theorem Own.far (_hown : Own k R E base w F v l) (hg : w.grownBy w' v.ownBlock) {b : Nat} (hb : b < w.heap.size) (hne : v.ownBlock ≠ some b) : w'.heap[b]? = w.heap[b]? := hg.block b hb (fun e => hne e.symm)
end
/-- A pair's cells. -/
def PrC (F : Fz) (cs : List Value) (p : List UInt8 × List UInt8) : Prop := ∃ a b, cs = [a, b] ∧ Bs F a p.1 ∧ Bs F b p.2
theorem PrC.mono (F F' : Fz) (x : List Value) (p : List UInt8 × List UInt8) (hl : Le F F') (h : PrC F x p) : PrC F' x p := by
  obtain ⟨a, b, h1, h2, h3⟩ := h
  exact ⟨a, b, h1, h2.mono hl, h3.mono hl⟩
abbrev Prs (F : Fz) (v : Value) (l : List (List UInt8 × List UInt8)) : Prop := Sl 2 PrC F v l
theorem Bs.oneCell {F : Fz} {v : Value} {l : List UInt8} (h : Bs F v l) : v.oneCell' = true := by
  obtain ⟨a, c, rfl, _⟩ := h.shape; rfl
theorem PrC.oneCell {F : Fz} {cs : List Value} {p : List UInt8 × List UInt8} (h : PrC F cs p) : ∀ u ∈ cs, u.oneCell' = true := by
  obtain ⟨a, b, rfl, h2, h3⟩ := h
  intro u hu
  rcases List.mem_cons.1 hu with rfl | hu
  · exact h2.oneCell
  · rw [List.mem_singleton.1 hu]; exact h3.oneCell
/-- Element i of a slice of pairs: its two cells. -/
theorem Prs.at {F : Fz} {a : Option Addr} {n c : Nat} {l : List (List UInt8 × List UInt8)} (h : Prs F (.slice a n c) l) (hn : 0 < n) :
    ∃ b o, a = some ⟨b, o, none⟩ ∧ ∀ (i : Nat) (hi : i < l.length), ∃ x y, cellF F b (o + i * 2) = some x ∧ cellF F b (o + i * 2 + 1) = some y ∧ Bs F x l[i].1 ∧ Bs F y l[i].2 := by
  obtain ⟨b, o, e, h1⟩ := Sl.at h (by omega) hn
  refine ⟨b, o, e, fun i hi => ?_⟩
  obtain ⟨cs, q1, ⟨x, y, rfl, q2, q3⟩, q4⟩ := h1 i hi
  refine ⟨x, y, ?_, ?_, q2, q3⟩
  · have := q4 0 (by simp); simpa using this
  · have := q4 1 (by simp); simpa [Nat.add_assoc] using this
theorem Sl.len {α : Type} {k : Nat} {R : Fz → List Value → α → Prop} {F : Fz} {a : Option Addr} {n c : Nat} {l : List α} (h : Sl k R F (.slice a n c) l) : n = l.length := by
  obtain ⟨a', c', h1, _⟩ := h.shape
  cases h1; rfl
end Go.Proofs.Yteefnnnbbmbmcaa
