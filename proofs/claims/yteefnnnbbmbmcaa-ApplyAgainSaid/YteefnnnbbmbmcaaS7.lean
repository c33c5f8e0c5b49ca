/- Reading rows of the call's own. No program in sight. -/
import Derived.Test.YteefnnnbbmbmcaaS6
namespace Go.Proofs.Yteefnnnbbmbmcaa
open Go.RowKit
set_option linter.unusedVariables false
theorem cell_kept {W w' : World} {a : Addr} {v : Value} (h : Below W.heap.size W w') (hc : W.cell? a = some v) : w'.cell? a = some v := by
  have hlt : a.block < W.heap.size := by
    rcases Nat.lt_or_ge a.block W.heap.size with h' | h'
    · exact h'
    · simp [World.cell?, Array.getElem?_eq_none h'] at hc
  rw [← hc]
  unfold World.cell?
  rw [h.block a.block hlt]
section
variable {α : Type} {k E base : Nat} {R : Fz → List Value → α → Prop} {w : World} {F : Fz} {l : List α}
theorem Own.addr0 {a : Option Addr} {n c : Nat} (h : Own k R E base w F (.slice a n c) l) (hl : 0 < l.length) : ∃ g, a = some ⟨g, 0, none⟩ := by
  obtain ⟨g, cap, e, _⟩ := h.form hl
  injection e with e
  exact ⟨g, e⟩
theorem Own.at {a : Option Addr} {n c : Nat} (h : Own k R E base w F (.slice a n c) l) {i : Nat} {p : α} (hp : l[i]? = some p) : ∃ g cs, a = some ⟨g, 0, none⟩ ∧ cs.length = k ∧ R F cs p ∧ w.rangeAt g (i * k) cs := by
  obtain ⟨hi, rfl⟩ := List.getElem?_eq_some_iff.1 hp
  obtain ⟨el, ⟨e1, e2⟩, h2, h3⟩ := h.ex
  have hll := h2.len
  rcases e2 with ⟨e2, h0⟩ | ⟨g, cap, cur, e2, q0, hg, q1, q2, q3, q4⟩
  · omega
  · injection e2 with e2
    refine ⟨g, el[i]'(by omega), e2, h3 _ (List.getElem_mem _), h2.get i (by omega) hi, fun j u hu => ?_⟩
    have hj : j < k := by
      have := (List.getElem?_eq_some_iff.1 hu).1
      rwa [h3 _ (List.getElem_mem _)] at this
    have hf := flatten_at h3 i (by omega) j hj
    rw [← q4, List.getElem?_take] at hf
    rw [← hf] at hu
    split at hu
    · simp only [World.cell?, hg]; simpa using hu
    · cases hu
theorem Own.len {a : Option Addr} {n c : Nat} (h : Own k R E base w F (.slice a n c) l) : n = l.length := by
  obtain ⟨a', c', e, _⟩ := h.shape
  injection e
end
theorem pr_at {E base : Nat} {w : World} {F : Fz} {l : List Pr} {a : Option Addr} {n c : Nat} (h : Own 2 PrC E base w F (.slice a n c) l) {i : Nat} {p : Pr} (hp : l[i]? = some p) :
    ∃ g, a = some ⟨g, 0, none⟩ ∧ ∃ xa xc ya yc, w.cell? ⟨g, 0 + i * 2, none⟩ = some (.slice xa p.1.length xc) ∧ w.cell? ⟨g, 0 + i * 2 + 1, none⟩ = some (.slice ya p.2.length yc) ∧ Bs F (.slice xa p.1.length xc) p.1 ∧ Bs F (.slice ya p.2.length yc) p.2 := by
  obtain ⟨g, cs, e, _, ⟨x, y, rfl, r1, r2⟩, hr⟩ := h.at hp
  obtain ⟨xa, xc, rfl, _⟩ := r1.shape
  obtain ⟨ya, yc, rfl, _⟩ := r2.shape
  refine ⟨g, e, xa, xc, ya, yc, ?_, ?_, r1, r2⟩
  · have := hr 0 _ rfl; rw [Nat.zero_add]; simpa using this
  · have := hr 1 _ rfl; rw [Nat.zero_add]; simpa using this
theorem tn_at {E base : Nat} {w : World} {F : Fz} {l : List (By × List Pr)} {a : Option Addr} {n c : Nat} (h : Own 2 TnC E base w F (.slice a n c) l) {i : Nat} {p : By × List Pr} (hp : l[i]? = some p) :
    ∃ g, a = some ⟨g, 0, none⟩ ∧ ∃ xa xc ya yc, w.cell? ⟨g, 0 + i * 2, none⟩ = some (.slice xa p.1.length xc) ∧ w.cell? ⟨g, 0 + i * 2 + 1, none⟩ = some (.slice ya p.2.length yc) ∧ Bs F (.slice xa p.1.length xc) p.1 ∧ Prs F (.slice ya p.2.length yc) p.2 := by
  obtain ⟨g, cs, e, _, ⟨x, y, rfl, r1, r2⟩, hr⟩ := h.at hp
  obtain ⟨xa, xc, rfl, _⟩ := r1.shape
  obtain ⟨ya, yc, rfl, _⟩ := Sl.shape r2
  refine ⟨g, e, xa, xc, ya, yc, ?_, ?_, r1, r2⟩
  · have := hr 0 _ rfl; rw [Nat.zero_add]; simpa using this
  · have := hr 1 _ rfl; rw [Nat.zero_add]; simpa using this
/-- 'row[i].field = x', a field of one cell. -/
theorem stSetCell {P : Program} {w0 w : World} {F0 F : Fz} {L : List Blk} {M : List RowP} {α : Type} {k base E : Nat} {R : Fz → List Value → α → Prop} {hR : ∀ F F' x p, Le F F' → R F x p → R F' x p} {l : List α} {ops : Array Oper} {Q : Exit → Act → World → Prop} {a : Act} {rest : List Oper} {d : Option Tmp} {t T : TypeId} {x y : Operand} {pos : String} {after : Array Edge} {guard : Option (Nat × Bool)} {r g cap i j o n : Nat} {u : Value} {p : α} (S : St w0 F0 w F L M)
    (hw : Region.wanted ⟨d, .store T x y, t, pos, after, guard⟩ (yielded ops a.tmps) = true) (hx : a.eval x = .pointer (some ⟨g, o, none⟩)) (ho : o = i * k + j) (hjk : j < k) (hy : a.eval y = u) (hM : M[r]? = some (ownP k R hR E base (.slice (some ⟨g, 0, none⟩) n cap) l)) (hil : i < l.length)
    (hi : (P.info? T).map (·.size) = some 1) (h1 : u.oneCell' = true) (hu : u.cells = #[u]) (hp : ∀ cs (q : α), l[i]? = some q → R F cs q → R F (cs.set j u) p) (hb : w0.heap.size ≤ base)
    (h : ∀ w', St w0 F0 w' F L (M.set r (ownP k R hR E base (.slice (some ⟨g, 0, none⟩) n cap) (l.set i p))) → WL P ops Q rest (a.put d undef) w') : WL P ops Q (⟨d, .store T x y, t, pos, after, guard⟩ :: rest) a w := by
  obtain ⟨el, ⟨e1, e2⟩, h2, h3⟩ := (S.own hM).ex
  have hll := h2.len
  subst ho
  rcases e2 with ⟨e2, _⟩ | ⟨g', cap', cur, e2, q0, hg, q1, q2, q3, q4⟩
  · cases e2
  · injection e2 with e2 e2n e2c
    injection e2 with e2
    injection e2 with e2
    subst e2; subst e2n; subst e2c
    have hcl : cur.toList.length = cap * k := by simpa using q3
    have hkl : (i + 1) * k ≤ l.length * k := Nat.mul_le_mul_right k (by omega)
    have hlc : l.length * k ≤ cap * k := Nat.mul_le_mul_right k q1
    rw [Nat.add_mul, Nat.one_mul] at hkl
    have hle : i * k + j + 1 ≤ cur.toList.length := by rw [hcl]; omega
    have ht : w.there g (i * k + j) u.cells.size := by
      intro m hm
      rw [hu] at hm
      simp at hm
      subst hm
      have : i * k + j < cur.size := by simp at hle; omega
      exact ⟨by simp [World.cell?, hg, this], by simp [World.frozen?, hg]⟩
    have hst := storeV (P := P) (T := T) (v := u) (by rw [hu]; exact hi) ht (by rw [hu]; simp [h1])
    have hgrown : w.grownBy (w.setCells g (i * k + j) u.cells.toList) (Value.slice (some ⟨g, 0, none⟩) l.length cap).ownBlock := by
      have hb' := below_setCells (B := 0) (Nat.zero_le g) u.cells.toList (i * k + j) w w (Below.refl 0 w)
      exact ⟨hb'.os, hb'.tape, hb'.output, hb'.size, fun b hb1 hb2 => heap_setCells_past _ _ _ (fun e => hb2 (by rw [e]; rfl))⟩
    have hheap := heap_setCells (n := g) (T := E) (fr := (0, 0)) u.cells.toList (i * k + j) w cur.toList (by simpa using hg) (by rw [hu]; simpa using hle)
    have hxl : el[i]'(by omega) ∈ el := List.getElem_mem _
    have hel := h3 _ hxl
    have hown : Own k R E base (w.setCells g (i * k + j) u.cells.toList) F (.slice (some ⟨g, 0, none⟩) l.length cap) (l.set i p) := by
      refine ⟨⟨el.set i ((el[i]'(by omega)).set j u), ⟨?_, .inr ⟨g, cap, _, by rw [List.length_set], q0, hheap, by rw [List.length_set]; exact q1, q2, ?_, ?_⟩⟩, allR_set h2 (hp _ _ (List.getElem?_eq_getElem hil) (h2.get i (by omega) hil)), fun y hy => ?_⟩, (S.own hM).out⟩
      · rw [flatten_len (fun y hy => ?_), List.length_set, List.length_set, hll]
        rcases List.mem_or_eq_of_mem_set hy with hy | rfl
        · exact h3 y hy
        · rw [List.length_set]; exact hel
      · rw [List.size_toArray, splice_len (by rw [hu]; simpa using hle), hcl]
      · rw [List.length_set, flatten_set h3 (by omega) (by rw [List.length_set]; exact hel), ← q4]
        have hei : el[i]'(by omega) = (cur.toList.drop (i * k)).take k := by
          have hf : ∀ m, m < k → (el[i]'(by omega))[m]? = cur.toList[i * k + m]? := fun m hm => by
            have := flatten_at h3 i (by omega) m hm
            rw [← this, ← q4, List.getElem?_take, if_pos (by omega)]
          apply List.ext_getElem?
          intro m
          rcases Nat.lt_or_ge m k with hm | hm
          · rw [hf m hm, List.getElem?_take, if_pos hm, List.getElem?_drop]
          · rw [List.getElem?_eq_none (by omega), List.getElem?_take, if_neg (by omega)]
        rw [hei, hu]
        unfold splice
        have hcl2 : cap * k ≤ cur.toList.length := by omega
        apply List.ext_getElem?
        intro m
        simp only [List.getElem?_append, List.getElem?_take, List.getElem?_drop, List.length_take, List.length_append, List.getElem?_set, List.length_set, List.length_drop, List.length_singleton]
        grind
      · rcases List.mem_or_eq_of_mem_set hy with hy | rfl
        · exact h3 y hy
        · rw [List.length_set]; exact hel
    refine doS hw (ex_store hx (by rw [hy]; exact hst)) (h _ (S.grown hM hb hgrown hown (fun g' hg' => .inl hg')))
/-- A literal of one element, in a region that draws its order. -/
theorem does_lit {P : Program} {o : Oper} {a : Act} {W w : World} {F F1 : Fz} {α : Type} {k : Nat} {R : Fz → List Value → α → Prop} {hR : ∀ F F' x p, Le F F' → R F x p → R F' x p} {cs : List Value} {p : α} {E : TypeId} (g : Gr W F w F1) (hp : R F1 cs p) (hk : cs.length = k)
    (hr : (execOp a.eval o).run P w = .ok (.value (.slice (some ⟨w.heap.size, 0, none⟩) 1 1)) (w.alloc (.cells cs.toArray E))) : Does P o a w (RelPost (Made W F fun F' u => Sl k R F' u [p]) w) := by
  unfold Does
  rw [hr]
  have g2 := g.new (.cells cs.toArray E)
  have g3 := g2.add (g := w.heap.size) g.below.size
  have hle : Le F1 (addF F1 (w.alloc (.cells cs.toArray E)) w.heap.size) := fun b o hb => addF_le _ _ _ _ _ hb
  refine ⟨⟨_, g3, sl_of_block (R := R) (l := [p]) (c := cs) (el := [cs]) (fun j v hj => ?_) (by simp) ⟨hR _ _ _ _ hle hp, trivial⟩ (by simpa using hk) (show [p].length ≤ maxLen by simp [maxLen])⟩, (Below.refl _ _).alloc (Nat.le_refl _) _⟩
  unfold cellF addF
  rw [g.sat.out (Nat.le_refl _)]
  simp only [if_true, heap_alloc_new]
  simpa using hj
/-! A block that is made in a region that draws its order. -/
def NewAt (W : World) (cs : List Value) (T : TypeId) (v : Value) (w : World) : Prop := ∃ n, v = .pointer (some ⟨n, 0, none⟩) ∧ W.heap.size ≤ n ∧ w.heap[n]? = some (.cells cs.toArray T (0, 0))
theorem NewAt.stable (W : World) (cs : List Value) (T : TypeId) : ∀ v w w', NewAt W cs T v w → Below w.heap.size w w' → NewAt W cs T v w' := by
  rintro v w w' ⟨n, h1, h2, h3⟩ hb
  exact ⟨n, h1, h2, heap_kept hb h3⟩
theorem does_alloc {P : Program} {d : Option Tmp} {t T : TypeId} {pos : String} {after : Array Edge} {guard : Option (Nat × Bool)} {a : Act} {w W : World} {z : Value} {cs : List Value} (hz : (zeroValue T).run P w = .ok z w) (hc : z.cells = cs.toArray) (hC : Below W.heap.size W w) : Does P ⟨d, .alloc T, t, pos, after, guard⟩ a w (RelPost (NewAt W cs T) w) := by
  unfold Does
  rw [ex_alloc hz]
  refine ⟨⟨w.heap.size, rfl, hC.size, ?_⟩, (Below.refl _ _).alloc (Nat.le_refl _) _⟩
  rw [hc]
  exact heap_alloc_new w _
theorem Facts.getR {W : World} {F : Fz} {L : List (Nat × Mark)} {Vs : Vals} {w : World} (h : Facts (specOf W F L) Vs w) (i : Nat) {v : Value} {R : Value → World → Prop} (hv : Vs i = some v) (hL : specOf W F L i = .rel R) : R v w := by
  have := h i v hv
  rw [hL] at this
  exact this
def dropF (F : Fz) (n : Nat) : Fz := fun b => if b = n then none else F b
theorem dropF_at (F : Fz) (n : Nat) : dropF F n n = none := by simp [dropF]
theorem Gr.dropF {W w : World} {F F' : Fz} (g : Gr W F w F') (hs : Sat W F) {n : Nat} (hn : W.heap.size ≤ n) : Gr W F w (dropF F' n) :=
  ⟨g.below, fun b hb => by unfold Proofs.Yteefnnnbbmbmcaa.dropF; rw [if_neg (by omega)]; exact g.old b hb, fun b o hb => by
    unfold Proofs.Yteefnnnbbmbmcaa.dropF at hb
    split at hb
    · cases hb
    · exact g.sat b o hb⟩
theorem Bs.dropF {w : World} {F : Fz} {n : Nat} {cs : List Value} {T : TypeId} (hs : Sat w F) (hb : w.heap[n]? = some (.cells cs.toArray T (0, 0))) (hc : ∀ u ∈ cs, ∀ x, u ≠ bv x) {v : Value} {l : List UInt8} (h : Bs F v l) : Bs (dropF F n) v l := by
  obtain ⟨a, c, h1, h2, h3, h4, h5⟩ := h
  refine ⟨a, c, h1, h2, h3, h4, ?_⟩
  rcases h5 with h5 | ⟨b, o, e, h6⟩
  · exact .inl h5
  · by_cases hbn : b = n
    · cases l with
      | nil => exact .inl rfl
      | cons x l =>
        exfalso
        have h0 := h6 0 (bv x) rfl
        subst hbn
        unfold cellF at h0
        split at h0
        · rename_i c0 t0 fr0 hF
          have := hs _ _ hF
          rw [hb] at this
          cases this
          have hm : bv x ∈ cs := by
            have : cs[o + 0]? = some (bv x) := by simpa using h0
            exact List.mem_of_getElem? this
          exact hc _ hm x rfl
        · cases h0
    · refine .inr ⟨b, o, e, fun j u hu => ?_⟩
      have := h6 j u hu
      unfold cellF Proofs.Yteefnnnbbmbmcaa.dropF at *
      rw [if_neg hbn]
      exact this
theorem Pr2V.dropF {w : World} {F : Fz} {n : Nat} {cs : List Value} {T : TypeId} (hs : Sat w F) (hb : w.heap[n]? = some (.cells cs.toArray T (0, 0))) (hc : ∀ u ∈ cs, ∀ x, u ≠ bv x) {v : Value} {p : Pr} (h : Pr2V F v p) : Pr2V (Proofs.Yteefnnnbbmbmcaa.dropF F n) v p := by
  obtain ⟨x0, y0, x1, y1, rfl, h0, h1⟩ := h
  exact ⟨x0, y0, x1, y1, rfl, h0.dropF hs hb hc, h1.dropF hs hb hc⟩
theorem WrV.dropF {w : World} {F : Fz} {n : Nat} {cs : List Value} {T : TypeId} (hs : Sat w F) (hb : w.heap[n]? = some (.cells cs.toArray T (0, 0))) (hc : ∀ u ∈ cs, ∀ x, u ≠ bv x) {v : Value} {p : Wr} (h : WrV F v p) : WrV (Proofs.Yteefnnnbbmbmcaa.dropF F n) v p := by
  obtain ⟨x0, y0, x1, y1, x3, y3, rfl, h0, h1, h3⟩ := h
  exact ⟨x0, y0, x1, y1, x3, y3, rfl, h0.dropF hs hb hc, h1.dropF hs hb hc, h3.dropF hs hb hc⟩
theorem RdV.dropF {w : World} {F : Fz} {n : Nat} {cs : List Value} {T : TypeId} (hs : Sat w F) (hb : w.heap[n]? = some (.cells cs.toArray T (0, 0))) (hc : ∀ u ∈ cs, ∀ x, u ≠ bv x) {v : Value} {p : Rd} (h : RdV F v p) : RdV (Proofs.Yteefnnnbbmbmcaa.dropF F n) v p := by
  obtain ⟨x0, y0, x1, y1, x3, y3, rfl, h0, h1, h3⟩ := h
  exact ⟨x0, y0, x1, y1, x3, y3, rfl, h0.dropF hs hb hc, h1.dropF hs hb hc, h3.dropF hs hb hc⟩
theorem wanted_un {o oj : Oper} {ops : Array Oper} {tmps : Array Value} {j d : Nat} {b : Bool} (hg : o.guard = some (j, b)) (hj : ops[j]? = some oj) (hd : oj.dst = some d) (hv : tmps.getD d undef = undef) : Region.wanted o (yielded ops tmps) = false := by
  rw [Array.getD_eq_getD_getElem?] at hv
  simp only [Region.wanted, hg, yielded, hj]
  cases h : tmps[d]? with
  | none => simp [h, hd]
  | some x => rw [h] at hv; simp at hv; subst hv; simp [h, hd, undef]
theorem does_val {P : Program} {o : Oper} {a : Act} {w : World} {v : Value} {R : Value → World → Prop} (h : (execOp a.eval o).run P w = .ok (.value v) w) (hR : R v w) (hb : Below w.heap.size w w) : Does P o a w (RelPost R w) := by
  unfold Does
  rw [h]
  exact ⟨hR, hb⟩
theorem both_none {F G : Fz} {n : Nat} (h : F n = none) (k : G n = none) : both F G n = none := by unfold both; rw [h]; exact k
theorem St.addBlk {w0 W w : World} {F0 F F' : Fz} {L : List Blk} {M : List RowP} (S : St w0 F0 W F L M) (g : Gr W F w F') {n : Nat} {cs : List Value} {T : TypeId} (hn : W.heap.size ≤ n) (hF : F' n = none) (hb : w.heap[n]? = some (.cells cs.toArray T (0, 0))) : St w0 F0 w F' (⟨n, cs, T⟩ :: L) M := by
  have S' := S.gives g
  refine ⟨S'.gr, fun x hx => ?_, S'.row, ?_, fun r hr x hx => ?_, S'.rr⟩
  · rcases List.mem_cons.1 hx with rfl | hx
    · exact ⟨hb, hF, Nat.le_trans S.gr.below.size hn⟩
    · exact S'.blk x hx
  · refine List.pairwise_cons.2 ⟨fun y hy => ?_, S'.bb⟩
    have := S.blk_lt hy
    simp only
    omega
  · rcases List.mem_cons.1 hx with rfl | hx
    · intro e
      have := ((S.row r hr).2 _ e).1
      simp at this
      omega
    · exact S'.rb r hr x hx
end Go.Proofs.Yteefnnnbbmbmcaa
