/- Structs by value, and in rows. No program in sight. -/
import Derived.Test.YteefnnnbbmbmcaaFX
import Derived.Test.YteefnnnbbmbmcaaP6
import Derived.Test.YteefnnnbbmbmcaaP9
namespace Go.Proofs.Yteefnnnbbmbmcaa
open Go.RowKit
set_option linter.unusedVariables false
structure Pl where
  name : By
  key : By
  value : By
  gone : Bool
structure Ft where
  kind : Int
  a : Int
  data : By
/-- A pair by value. -/
theorem Prs.get {F : Fz} {a : Option Addr} {n c : Nat} {l : List Pr} (h : Prs F (.slice a n c) l) {i : Nat} {p : Pr} (hp : l[i]? = some p) :
    ∃ b o, a = some ⟨b, o, none⟩ ∧ ∃ xa xc ya yc, cellF F b (o + i * 2) = some (.slice xa p.1.length xc) ∧ cellF F b (o + i * 2 + 1) = some (.slice ya p.2.length yc) ∧ Bs F (.slice xa p.1.length xc) p.1 ∧ Bs F (.slice ya p.2.length yc) p.2 := by
  obtain ⟨hi, rfl⟩ := List.getElem?_eq_some_iff.1 hp
  have hn := h.len
  obtain ⟨b, o, e, h1⟩ := Prs.at h (by omega)
  obtain ⟨x, y, c1, c2, r1, r2⟩ := h1 i hi
  obtain ⟨xa, xc, rfl, _⟩ := r1.shape
  obtain ⟨ya, yc, rfl, _⟩ := r2.shape
  exact ⟨b, o, e, xa, xc, ya, yc, c1, c2, r1, r2⟩
theorem Prs.mono {F F' : Fz} {v : Value} {l : List Pr} (h : Prs F v l) (hl : Le F F') : Prs F' v l := Sl.mono PrC.mono h hl
theorem Prs.oneCell {F : Fz} {v : Value} {l : List Pr} (h : Prs F v l) : v.oneCell' = true := by obtain ⟨a, c, rfl, _⟩ := Sl.shape h; rfl
theorem Sl.takeN {α : Type} {k : Nat} {R : Fz → List Value → α → Prop} {F : Fz} {a : Option Addr} {n c : Nat} {l : List α} (h : Sl k R F (.slice a n c) l) {m : Nat} (hm : m ≤ n) : Sl k R F (.slice a m c) (l.take m) := by
  have hn := h.len
  obtain ⟨el, h1, h2, h3⟩ := h
  have h4 := Rw.takeN (by rw [hn] at h1; exact h1) (show m ≤ l.length by omega) k (F := F) (a := a) (c := c) (cs := el.flatten)
  refine ⟨el.take m, ?_, h2.take m, fun x hx => h3 x (List.mem_of_mem_take hx)⟩
  have e : (el.take m).flatten = el.flatten.take (m * k) := by
    clear h1 h2 h4 hn hm
    induction el generalizing m with
    | nil => simp
    | cons x el ih =>
      cases m with
      | zero => simp
      | succ m =>
        have hx := h3 x (by simp)
        simp only [List.take_succ_cons, List.flatten_cons]
        rw [ih (fun y hy => h3 y (by simp [hy])), Nat.add_mul, Nat.one_mul, List.take_append, hx, show m * k + k - k = m * k from by omega, List.take_of_length_le (show x.length ≤ m * k + k by omega)]
  rw [e, List.length_take, Nat.min_eq_left (by omega)]
  exact h4
theorem Sl.dropN {α : Type} {k : Nat} {R : Fz → List Value → α → Prop} {F : Fz} {b o n c : Nat} {l : List α} (h : Sl k R F (.slice (some ⟨b, o, none⟩) n c) l) {m n' c' : Nat} (hm : m ≤ n) (e1 : n - m = n') (e2 : c - m = c') : Sl k R F (.slice (some ⟨b, o + m * k, none⟩) n' c') (l.drop m) := by
  have hn := h.len
  subst e1; subst e2
  obtain ⟨el, h1, h2, h3⟩ := h
  obtain ⟨a', c0, q1, q2, q3, q4, q5⟩ := h1
  cases q1
  have hll := h2.len
  have e : (el.drop m).flatten = el.flatten.drop (m * k) := by
    clear h2 q5 hn hm q2 hll
    induction el generalizing m with
    | nil => simp
    | cons x el ih =>
      cases m with
      | zero => simp
      | succ m =>
        have hx := h3 x (by simp)
        simp only [List.drop_succ_cons, List.flatten_cons]
        rw [ih (fun y hy => h3 y (by simp [hy])), Nat.add_mul, Nat.one_mul, List.drop_append, hx, show m * k + k - k = m * k from by omega, List.drop_of_length_le (show x.length ≤ m * k + k by omega)]
        simp
  refine ⟨el.drop m, ⟨_, _, by rw [List.length_drop, hn], by rw [List.length_drop]; omega, by omega, (fun h => by cases h), ?_⟩, h2.drop m, fun x hx => h3 x (List.mem_of_mem_drop hx)⟩
  rw [e]
  rcases q5 with q5 | ⟨b', o', q6, q7⟩
  · left; rw [q5]; simp
  · right
    cases q6
    refine ⟨b, o + m * k, rfl, fun j u hu => ?_⟩
    rw [List.getElem?_drop] at hu
    have := q7 _ u hu
    rwa [← Nat.add_assoc] at this
theorem Sl.nilOf {α : Type} {k : Nat} {R : Fz → List Value → α → Prop} {F : Fz} {n c : Nat} {l : List α} (h : Sl k R F (.slice none n c) l) : l = [] := by
  obtain ⟨el, ⟨a', c0, q1, q2, q3, q4, q5⟩, _⟩ := h
  cases q1
  exact List.eq_nil_of_length_eq_zero (q4 rfl).1

/-- Tn: its cells. -/
def TnC (F : Fz) (cs : List Value) (p : (By × List Pr)) : Prop := ∃ a0 a1, cs = [a0, a1] ∧ Bs F a0 p.1 ∧ Prs F a1 p.2
theorem TnC.mono (F F' : Fz) (x : List Value) (p : (By × List Pr)) (hl : Le F F') (h : TnC F x p) : TnC F' x p := by
  obtain ⟨a0, a1, rfl, h0, h1⟩ := h
  exact ⟨a0, a1, rfl, h0.mono hl, h1.mono hl⟩
theorem TnC.oneCell {F : Fz} {cs : List Value} {p : (By × List Pr)} (h : TnC F cs p) : ∀ u ∈ cs, u.oneCell' = true := by
  obtain ⟨a0, a1, rfl, h0, h1⟩ := h
  intro u hu
  simp only [List.mem_cons, List.not_mem_nil, or_false] at hu
  rcases hu with rfl | rfl
  · exact h0.oneCell
  · exact h1.oneCell
abbrev Tns (F : Fz) (v : Value) (l : List (By × List Pr)) : Prop := Sl 2 TnC F v l
theorem Tns.mono {F F' : Fz} {v : Value} {l : List (By × List Pr)} (h : Tns F v l) (hl : Le F F') : Tns F' v l := Sl.mono TnC.mono h hl
theorem Tns.oneCell {F : Fz} {v : Value} {l : List (By × List Pr)} (h : Tns F v l) : v.oneCell' = true := by obtain ⟨a, c, rfl, _⟩ := Sl.shape h; rfl
theorem Tns.get {F : Fz} {a : Option Addr} {n c : Nat} {l : List (By × List Pr)} (h : Tns F (.slice a n c) l) {i : Nat} {p : (By × List Pr)} (hp : l[i]? = some p) :
    ∃ b o, a = some ⟨b, o, none⟩ ∧ ∃ x0 y0 x1 y1, cellF F b (o + i * 2) = some (.slice x0 p.1.length y0) ∧ cellF F b (o + i * 2 + 1) = some (.slice x1 p.2.length y1) ∧ Bs F (.slice x0 p.1.length y0) p.1 ∧ Prs F (.slice x1 p.2.length y1) p.2 := by
  obtain ⟨hi, rfl⟩ := List.getElem?_eq_some_iff.1 hp
  have hn := Sl.len h
  obtain ⟨b, o, e, h1⟩ := Sl.at h (by omega) (by omega)
  obtain ⟨cs, q1, ⟨a0, a1, rfl, h0, h1⟩, q3⟩ := h1 i hi
  obtain ⟨x0, y0, rfl, _⟩ := h0.shape
  obtain ⟨x1, y1, rfl, _⟩ := h1.shape
  exact ⟨b, o, e, x0, y0, x1, y1, by have := q3 0 (by simp); simpa [Nat.add_assoc] using this, by have := q3 1 (by simp); simpa [Nat.add_assoc] using this, h0, h1⟩
def TnV (F : Fz) (v : Value) (p : (By × List Pr)) : Prop := ∃ x0 y0 x1 y1, v = .agg #[.slice x0 p.1.length y0, .slice x1 p.2.length y1] ∧ Bs F (.slice x0 p.1.length y0) p.1 ∧ Prs F (.slice x1 p.2.length y1) p.2
theorem TnV.mono {F F' : Fz} {v : Value} {p : (By × List Pr)} (h : TnV F v p) (hl : Le F F') : TnV F' v p := by
  obtain ⟨x0, y0, x1, y1, rfl, h0, h1⟩ := h
  exact ⟨x0, y0, x1, y1, rfl, h0.mono hl, h1.mono hl⟩
/-- Wr: its cells. -/
def WrC (F : Fz) (cs : List Value) (p : Wr) : Prop := ∃ a0 a1 a2 a3, cs = [a0, a1, a2, a3] ∧ Bs F a0 p.name ∧ Bs F a1 p.key ∧ a2 = .bool p.gone ∧ Bs F a3 p.value
theorem WrC.mono (F F' : Fz) (x : List Value) (p : Wr) (hl : Le F F') (h : WrC F x p) : WrC F' x p := by
  obtain ⟨a0, a1, a2, a3, rfl, h0, h1, h2, h3⟩ := h
  exact ⟨a0, a1, a2, a3, rfl, h0.mono hl, h1.mono hl, h2, h3.mono hl⟩
theorem WrC.oneCell {F : Fz} {cs : List Value} {p : Wr} (h : WrC F cs p) : ∀ u ∈ cs, u.oneCell' = true := by
  obtain ⟨a0, a1, a2, a3, rfl, h0, h1, h2, h3⟩ := h
  intro u hu
  simp only [List.mem_cons, List.not_mem_nil, or_false] at hu
  rcases hu with rfl | rfl | rfl | rfl
  · exact h0.oneCell
  · exact h1.oneCell
  · rw [h2]; rfl
  · exact h3.oneCell
abbrev Wrs (F : Fz) (v : Value) (l : List Wr) : Prop := Sl 4 WrC F v l
theorem Wrs.mono {F F' : Fz} {v : Value} {l : List Wr} (h : Wrs F v l) (hl : Le F F') : Wrs F' v l := Sl.mono WrC.mono h hl
theorem Wrs.oneCell {F : Fz} {v : Value} {l : List Wr} (h : Wrs F v l) : v.oneCell' = true := by obtain ⟨a, c, rfl, _⟩ := Sl.shape h; rfl
theorem Wrs.get {F : Fz} {a : Option Addr} {n c : Nat} {l : List Wr} (h : Wrs F (.slice a n c) l) {i : Nat} {p : Wr} (hp : l[i]? = some p) :
    ∃ b o, a = some ⟨b, o, none⟩ ∧ ∃ x0 y0 x1 y1 x3 y3, cellF F b (o + i * 4) = some (.slice x0 p.name.length y0) ∧ cellF F b (o + i * 4 + 1) = some (.slice x1 p.key.length y1) ∧ cellF F b (o + i * 4 + 2) = some (.bool p.gone) ∧ cellF F b (o + i * 4 + 3) = some (.slice x3 p.value.length y3) ∧ Bs F (.slice x0 p.name.length y0) p.name ∧ Bs F (.slice x1 p.key.length y1) p.key ∧ Bs F (.slice x3 p.value.length y3) p.value := by
  obtain ⟨hi, rfl⟩ := List.getElem?_eq_some_iff.1 hp
  have hn := Sl.len h
  obtain ⟨b, o, e, h1⟩ := Sl.at h (by omega) (by omega)
  obtain ⟨cs, q1, ⟨a0, a1, a2, a3, rfl, h0, h1, h2, h3⟩, q3⟩ := h1 i hi
  obtain ⟨x0, y0, rfl, _⟩ := h0.shape
  obtain ⟨x1, y1, rfl, _⟩ := h1.shape
  subst h2
  obtain ⟨x3, y3, rfl, _⟩ := h3.shape
  exact ⟨b, o, e, x0, y0, x1, y1, x3, y3, by have := q3 0 (by simp); simpa [Nat.add_assoc] using this, by have := q3 1 (by simp); simpa [Nat.add_assoc] using this, by have := q3 2 (by simp); simpa [Nat.add_assoc] using this, by have := q3 3 (by simp); simpa [Nat.add_assoc] using this, h0, h1, h3⟩
def WrV (F : Fz) (v : Value) (p : Wr) : Prop := ∃ x0 y0 x1 y1 x3 y3, v = .agg #[.slice x0 p.name.length y0, .slice x1 p.key.length y1, .bool p.gone, .slice x3 p.value.length y3] ∧ Bs F (.slice x0 p.name.length y0) p.name ∧ Bs F (.slice x1 p.key.length y1) p.key ∧ Bs F (.slice x3 p.value.length y3) p.value
theorem WrV.mono {F F' : Fz} {v : Value} {p : Wr} (h : WrV F v p) (hl : Le F F') : WrV F' v p := by
  obtain ⟨x0, y0, x1, y1, x3, y3, rfl, h0, h1, h2⟩ := h
  exact ⟨x0, y0, x1, y1, x3, y3, rfl, h0.mono hl, h1.mono hl, h2.mono hl⟩
/-- Rd: its cells. -/
def RdC (F : Fz) (cs : List Value) (p : Rd) : Prop := ∃ a0 a1 a2 a3, cs = [a0, a1, a2, a3] ∧ Bs F a0 p.name ∧ Bs F a1 p.key ∧ a2 = .bool p.wide ∧ Bs F a3 p.last
theorem RdC.mono (F F' : Fz) (x : List Value) (p : Rd) (hl : Le F F') (h : RdC F x p) : RdC F' x p := by
  obtain ⟨a0, a1, a2, a3, rfl, h0, h1, h2, h3⟩ := h
  exact ⟨a0, a1, a2, a3, rfl, h0.mono hl, h1.mono hl, h2, h3.mono hl⟩
theorem RdC.oneCell {F : Fz} {cs : List Value} {p : Rd} (h : RdC F cs p) : ∀ u ∈ cs, u.oneCell' = true := by
  obtain ⟨a0, a1, a2, a3, rfl, h0, h1, h2, h3⟩ := h
  intro u hu
  simp only [List.mem_cons, List.not_mem_nil, or_false] at hu
  rcases hu with rfl | rfl | rfl | rfl
  · exact h0.oneCell
  · exact h1.oneCell
  · rw [h2]; rfl
  · exact h3.oneCell
abbrev Rds (F : Fz) (v : Value) (l : List Rd) : Prop := Sl 4 RdC F v l
theorem Rds.mono {F F' : Fz} {v : Value} {l : List Rd} (h : Rds F v l) (hl : Le F F') : Rds F' v l := Sl.mono RdC.mono h hl
theorem Rds.oneCell {F : Fz} {v : Value} {l : List Rd} (h : Rds F v l) : v.oneCell' = true := by obtain ⟨a, c, rfl, _⟩ := Sl.shape h; rfl
theorem Rds.get {F : Fz} {a : Option Addr} {n c : Nat} {l : List Rd} (h : Rds F (.slice a n c) l) {i : Nat} {p : Rd} (hp : l[i]? = some p) :
    ∃ b o, a = some ⟨b, o, none⟩ ∧ ∃ x0 y0 x1 y1 x3 y3, cellF F b (o + i * 4) = some (.slice x0 p.name.length y0) ∧ cellF F b (o + i * 4 + 1) = some (.slice x1 p.key.length y1) ∧ cellF F b (o + i * 4 + 2) = some (.bool p.wide) ∧ cellF F b (o + i * 4 + 3) = some (.slice x3 p.last.length y3) ∧ Bs F (.slice x0 p.name.length y0) p.name ∧ Bs F (.slice x1 p.key.length y1) p.key ∧ Bs F (.slice x3 p.last.length y3) p.last := by
  obtain ⟨hi, rfl⟩ := List.getElem?_eq_some_iff.1 hp
  have hn := Sl.len h
  obtain ⟨b, o, e, h1⟩ := Sl.at h (by omega) (by omega)
  obtain ⟨cs, q1, ⟨a0, a1, a2, a3, rfl, h0, h1, h2, h3⟩, q3⟩ := h1 i hi
  obtain ⟨x0, y0, rfl, _⟩ := h0.shape
  obtain ⟨x1, y1, rfl, _⟩ := h1.shape
  subst h2
  obtain ⟨x3, y3, rfl, _⟩ := h3.shape
  exact ⟨b, o, e, x0, y0, x1, y1, x3, y3, by have := q3 0 (by simp); simpa [Nat.add_assoc] using this, by have := q3 1 (by simp); simpa [Nat.add_assoc] using this, by have := q3 2 (by simp); simpa [Nat.add_assoc] using this, by have := q3 3 (by simp); simpa [Nat.add_assoc] using this, h0, h1, h3⟩
def RdV (F : Fz) (v : Value) (p : Rd) : Prop := ∃ x0 y0 x1 y1 x3 y3, v = .agg #[.slice x0 p.name.length y0, .slice x1 p.key.length y1, .bool p.wide, .slice x3 p.last.length y3] ∧ Bs F (.slice x0 p.name.length y0) p.name ∧ Bs F (.slice x1 p.key.length y1) p.key ∧ Bs F (.slice x3 p.last.length y3) p.last
theorem RdV.mono {F F' : Fz} {v : Value} {p : Rd} (h : RdV F v p) (hl : Le F F') : RdV F' v p := by
  obtain ⟨x0, y0, x1, y1, x3, y3, rfl, h0, h1, h2⟩ := h
  exact ⟨x0, y0, x1, y1, x3, y3, rfl, h0.mono hl, h1.mono hl, h2.mono hl⟩
/-- Cm: its cells. -/
def CmC (F : Fz) (cs : List Value) (p : Cm) : Prop := ∃ a0 a1, cs = [a0, a1] ∧ a0 = .int .i64 ((p.turn : Nat) : Int) ∧ Wrs F a1 p.writes
theorem CmC.mono (F F' : Fz) (x : List Value) (p : Cm) (hl : Le F F') (h : CmC F x p) : CmC F' x p := by
  obtain ⟨a0, a1, rfl, h0, h1⟩ := h
  exact ⟨a0, a1, rfl, h0, h1.mono hl⟩
theorem CmC.oneCell {F : Fz} {cs : List Value} {p : Cm} (h : CmC F cs p) : ∀ u ∈ cs, u.oneCell' = true := by
  obtain ⟨a0, a1, rfl, h0, h1⟩ := h
  intro u hu
  simp only [List.mem_cons, List.not_mem_nil, or_false] at hu
  rcases hu with rfl | rfl
  · rw [h0]; rfl
  · exact h1.oneCell
abbrev Cms (F : Fz) (v : Value) (l : List Cm) : Prop := Sl 2 CmC F v l
theorem Cms.mono {F F' : Fz} {v : Value} {l : List Cm} (h : Cms F v l) (hl : Le F F') : Cms F' v l := Sl.mono CmC.mono h hl
theorem Cms.oneCell {F : Fz} {v : Value} {l : List Cm} (h : Cms F v l) : v.oneCell' = true := by obtain ⟨a, c, rfl, _⟩ := Sl.shape h; rfl
theorem Cms.get {F : Fz} {a : Option Addr} {n c : Nat} {l : List Cm} (h : Cms F (.slice a n c) l) {i : Nat} {p : Cm} (hp : l[i]? = some p) :
    ∃ b o, a = some ⟨b, o, none⟩ ∧ ∃ x1 y1, cellF F b (o + i * 2) = some (.int .i64 ((p.turn : Nat) : Int)) ∧ cellF F b (o + i * 2 + 1) = some (.slice x1 p.writes.length y1) ∧ Wrs F (.slice x1 p.writes.length y1) p.writes := by
  obtain ⟨hi, rfl⟩ := List.getElem?_eq_some_iff.1 hp
  have hn := Sl.len h
  obtain ⟨b, o, e, h1⟩ := Sl.at h (by omega) (by omega)
  obtain ⟨cs, q1, ⟨a0, a1, rfl, h0, h1⟩, q3⟩ := h1 i hi
  subst h0
  obtain ⟨x1, y1, rfl, _⟩ := h1.shape
  exact ⟨b, o, e, x1, y1, by have := q3 0 (by simp); simpa [Nat.add_assoc] using this, by have := q3 1 (by simp); simpa [Nat.add_assoc] using this, h1⟩
def CmV (F : Fz) (v : Value) (p : Cm) : Prop := ∃ x1 y1, v = .agg #[.int .i64 ((p.turn : Nat) : Int), .slice x1 p.writes.length y1] ∧ Wrs F (.slice x1 p.writes.length y1) p.writes
theorem CmV.mono {F F' : Fz} {v : Value} {p : Cm} (h : CmV F v p) (hl : Le F F') : CmV F' v p := by
  obtain ⟨x1, y1, rfl, h0⟩ := h
  exact ⟨x1, y1, rfl, h0.mono hl⟩
/-- Stp: its cells. -/
def StpC (F : Fz) (cs : List Value) (p : Stp) : Prop := ∃ a0 a1 a2, cs = [a0, a1, a2] ∧ a0 = .int .i64 ((p.bit : Nat) : Int) ∧ a1 = .bool p.right ∧ Bs F a2 p.other
theorem StpC.mono (F F' : Fz) (x : List Value) (p : Stp) (hl : Le F F') (h : StpC F x p) : StpC F' x p := by
  obtain ⟨a0, a1, a2, rfl, h0, h1, h2⟩ := h
  exact ⟨a0, a1, a2, rfl, h0, h1, h2.mono hl⟩
theorem StpC.oneCell {F : Fz} {cs : List Value} {p : Stp} (h : StpC F cs p) : ∀ u ∈ cs, u.oneCell' = true := by
  obtain ⟨a0, a1, a2, rfl, h0, h1, h2⟩ := h
  intro u hu
  simp only [List.mem_cons, List.not_mem_nil, or_false] at hu
  rcases hu with rfl | rfl | rfl
  · rw [h0]; rfl
  · rw [h1]; rfl
  · exact h2.oneCell
abbrev Stps (F : Fz) (v : Value) (l : List Stp) : Prop := Sl 3 StpC F v l
theorem Stps.mono {F F' : Fz} {v : Value} {l : List Stp} (h : Stps F v l) (hl : Le F F') : Stps F' v l := Sl.mono StpC.mono h hl
theorem Stps.oneCell {F : Fz} {v : Value} {l : List Stp} (h : Stps F v l) : v.oneCell' = true := by obtain ⟨a, c, rfl, _⟩ := Sl.shape h; rfl
theorem Stps.get {F : Fz} {a : Option Addr} {n c : Nat} {l : List Stp} (h : Stps F (.slice a n c) l) {i : Nat} {p : Stp} (hp : l[i]? = some p) :
    ∃ b o, a = some ⟨b, o, none⟩ ∧ ∃ x2 y2, cellF F b (o + i * 3) = some (.int .i64 ((p.bit : Nat) : Int)) ∧ cellF F b (o + i * 3 + 1) = some (.bool p.right) ∧ cellF F b (o + i * 3 + 2) = some (.slice x2 p.other.length y2) ∧ Bs F (.slice x2 p.other.length y2) p.other := by
  obtain ⟨hi, rfl⟩ := List.getElem?_eq_some_iff.1 hp
  have hn := Sl.len h
  obtain ⟨b, o, e, h1⟩ := Sl.at h (by omega) (by omega)
  obtain ⟨cs, q1, ⟨a0, a1, a2, rfl, h0, h1, h2⟩, q3⟩ := h1 i hi
  subst h0
  subst h1
  obtain ⟨x2, y2, rfl, _⟩ := h2.shape
  exact ⟨b, o, e, x2, y2, by have := q3 0 (by simp); simpa [Nat.add_assoc] using this, by have := q3 1 (by simp); simpa [Nat.add_assoc] using this, by have := q3 2 (by simp); simpa [Nat.add_assoc] using this, h2⟩
def StpV (F : Fz) (v : Value) (p : Stp) : Prop := ∃ x2 y2, v = .agg #[.int .i64 ((p.bit : Nat) : Int), .bool p.right, .slice x2 p.other.length y2] ∧ Bs F (.slice x2 p.other.length y2) p.other
theorem StpV.mono {F F' : Fz} {v : Value} {p : Stp} (h : StpV F v p) (hl : Le F F') : StpV F' v p := by
  obtain ⟨x2, y2, rfl, h0⟩ := h
  exact ⟨x2, y2, rfl, h0.mono hl⟩
/-- Pl: its cells. -/
def PlC (F : Fz) (cs : List Value) (p : Pl) : Prop := ∃ a0 a1 a2 a3, cs = [a0, a1, a2, a3] ∧ Bs F a0 p.name ∧ Bs F a1 p.key ∧ Bs F a2 p.value ∧ a3 = .bool p.gone
theorem PlC.mono (F F' : Fz) (x : List Value) (p : Pl) (hl : Le F F') (h : PlC F x p) : PlC F' x p := by
  obtain ⟨a0, a1, a2, a3, rfl, h0, h1, h2, h3⟩ := h
  exact ⟨a0, a1, a2, a3, rfl, h0.mono hl, h1.mono hl, h2.mono hl, h3⟩
theorem PlC.oneCell {F : Fz} {cs : List Value} {p : Pl} (h : PlC F cs p) : ∀ u ∈ cs, u.oneCell' = true := by
  obtain ⟨a0, a1, a2, a3, rfl, h0, h1, h2, h3⟩ := h
  intro u hu
  simp only [List.mem_cons, List.not_mem_nil, or_false] at hu
  rcases hu with rfl | rfl | rfl | rfl
  · exact h0.oneCell
  · exact h1.oneCell
  · exact h2.oneCell
  · rw [h3]; rfl
abbrev Pls (F : Fz) (v : Value) (l : List Pl) : Prop := Sl 4 PlC F v l
theorem Pls.mono {F F' : Fz} {v : Value} {l : List Pl} (h : Pls F v l) (hl : Le F F') : Pls F' v l := Sl.mono PlC.mono h hl
theorem Pls.oneCell {F : Fz} {v : Value} {l : List Pl} (h : Pls F v l) : v.oneCell' = true := by obtain ⟨a, c, rfl, _⟩ := Sl.shape h; rfl
theorem Pls.get {F : Fz} {a : Option Addr} {n c : Nat} {l : List Pl} (h : Pls F (.slice a n c) l) {i : Nat} {p : Pl} (hp : l[i]? = some p) :
    ∃ b o, a = some ⟨b, o, none⟩ ∧ ∃ x0 y0 x1 y1 x2 y2, cellF F b (o + i * 4) = some (.slice x0 p.name.length y0) ∧ cellF F b (o + i * 4 + 1) = some (.slice x1 p.key.length y1) ∧ cellF F b (o + i * 4 + 2) = some (.slice x2 p.value.length y2) ∧ cellF F b (o + i * 4 + 3) = some (.bool p.gone) ∧ Bs F (.slice x0 p.name.length y0) p.name ∧ Bs F (.slice x1 p.key.length y1) p.key ∧ Bs F (.slice x2 p.value.length y2) p.value := by
  obtain ⟨hi, rfl⟩ := List.getElem?_eq_some_iff.1 hp
  have hn := Sl.len h
  obtain ⟨b, o, e, h1⟩ := Sl.at h (by omega) (by omega)
  obtain ⟨cs, q1, ⟨a0, a1, a2, a3, rfl, h0, h1, h2, h3⟩, q3⟩ := h1 i hi
  obtain ⟨x0, y0, rfl, _⟩ := h0.shape
  obtain ⟨x1, y1, rfl, _⟩ := h1.shape
  obtain ⟨x2, y2, rfl, _⟩ := h2.shape
  subst h3
  exact ⟨b, o, e, x0, y0, x1, y1, x2, y2, by have := q3 0 (by simp); simpa [Nat.add_assoc] using this, by have := q3 1 (by simp); simpa [Nat.add_assoc] using this, by have := q3 2 (by simp); simpa [Nat.add_assoc] using this, by have := q3 3 (by simp); simpa [Nat.add_assoc] using this, h0, h1, h2⟩
def PlV (F : Fz) (v : Value) (p : Pl) : Prop := ∃ x0 y0 x1 y1 x2 y2, v = .agg #[.slice x0 p.name.length y0, .slice x1 p.key.length y1, .slice x2 p.value.length y2, .bool p.gone] ∧ Bs F (.slice x0 p.name.length y0) p.name ∧ Bs F (.slice x1 p.key.length y1) p.key ∧ Bs F (.slice x2 p.value.length y2) p.value
theorem PlV.mono {F F' : Fz} {v : Value} {p : Pl} (h : PlV F v p) (hl : Le F F') : PlV F' v p := by
  obtain ⟨x0, y0, x1, y1, x2, y2, rfl, h0, h1, h2⟩ := h
  exact ⟨x0, y0, x1, y1, x2, y2, rfl, h0.mono hl, h1.mono hl, h2.mono hl⟩
/-- Ft: its cells. -/
def FtC (F : Fz) (cs : List Value) (p : Ft) : Prop := ∃ a0 a1 a2, cs = [a0, a1, a2] ∧ a0 = .int .i64 p.kind ∧ a1 = .int .i64 p.a ∧ Bs F a2 p.data
theorem FtC.mono (F F' : Fz) (x : List Value) (p : Ft) (hl : Le F F') (h : FtC F x p) : FtC F' x p := by
  obtain ⟨a0, a1, a2, rfl, h0, h1, h2⟩ := h
  exact ⟨a0, a1, a2, rfl, h0, h1, h2.mono hl⟩
theorem FtC.oneCell {F : Fz} {cs : List Value} {p : Ft} (h : FtC F cs p) : ∀ u ∈ cs, u.oneCell' = true := by
  obtain ⟨a0, a1, a2, rfl, h0, h1, h2⟩ := h
  intro u hu
  simp only [List.mem_cons, List.not_mem_nil, or_false] at hu
  rcases hu with rfl | rfl | rfl
  · rw [h0]; rfl
  · rw [h1]; rfl
  · exact h2.oneCell
abbrev Fts (F : Fz) (v : Value) (l : List Ft) : Prop := Sl 3 FtC F v l
theorem Fts.mono {F F' : Fz} {v : Value} {l : List Ft} (h : Fts F v l) (hl : Le F F') : Fts F' v l := Sl.mono FtC.mono h hl
theorem Fts.oneCell {F : Fz} {v : Value} {l : List Ft} (h : Fts F v l) : v.oneCell' = true := by obtain ⟨a, c, rfl, _⟩ := Sl.shape h; rfl
theorem Fts.get {F : Fz} {a : Option Addr} {n c : Nat} {l : List Ft} (h : Fts F (.slice a n c) l) {i : Nat} {p : Ft} (hp : l[i]? = some p) :
    ∃ b o, a = some ⟨b, o, none⟩ ∧ ∃ x2 y2, cellF F b (o + i * 3) = some (.int .i64 p.kind) ∧ cellF F b (o + i * 3 + 1) = some (.int .i64 p.a) ∧ cellF F b (o + i * 3 + 2) = some (.slice x2 p.data.length y2) ∧ Bs F (.slice x2 p.data.length y2) p.data := by
  obtain ⟨hi, rfl⟩ := List.getElem?_eq_some_iff.1 hp
  have hn := Sl.len h
  obtain ⟨b, o, e, h1⟩ := Sl.at h (by omega) (by omega)
  obtain ⟨cs, q1, ⟨a0, a1, a2, rfl, h0, h1, h2⟩, q3⟩ := h1 i hi
  subst h0
  subst h1
  obtain ⟨x2, y2, rfl, _⟩ := h2.shape
  exact ⟨b, o, e, x2, y2, by have := q3 0 (by simp); simpa [Nat.add_assoc] using this, by have := q3 1 (by simp); simpa [Nat.add_assoc] using this, by have := q3 2 (by simp); simpa [Nat.add_assoc] using this, h2⟩
def FtV (F : Fz) (v : Value) (p : Ft) : Prop := ∃ x2 y2, v = .agg #[.int .i64 p.kind, .int .i64 p.a, .slice x2 p.data.length y2] ∧ Bs F (.slice x2 p.data.length y2) p.data
theorem FtV.mono {F F' : Fz} {v : Value} {p : Ft} (h : FtV F v p) (hl : Le F F') : FtV F' v p := by
  obtain ⟨x2, y2, rfl, h0⟩ := h
  exact ⟨x2, y2, rfl, h0.mono hl⟩
def Pr2V (F : Fz) (v : Value) (p : Pr) : Prop := ∃ x0 y0 x1 y1, v = .agg #[.slice x0 p.1.length y0, .slice x1 p.2.length y1] ∧ Bs F (.slice x0 p.1.length y0) p.1 ∧ Bs F (.slice x1 p.2.length y1) p.2
theorem Pr2V.mono {F F' : Fz} {v : Value} {p : Pr} (h : Pr2V F v p) (hl : Le F F') : Pr2V F' v p := by
  obtain ⟨x0, y0, x1, y1, rfl, h0, h1⟩ := h
  exact ⟨x0, y0, x1, y1, rfl, h0.mono hl, h1.mono hl⟩
/-- A call that hands back a row of its own. -/
def GivesO {α : Type} (w : World) (F : Fz) (k : Nat) (R : Fz → List Value → α → Prop) (E : Nat) (l : List α) (e : Ending) (w' : World) : Prop := ∃ v F', e = .returned v ∧ Gr w F w' F' ∧ Own k R E w.heap.size w' F' v l
theorem St.addRow {α : Type} {k E : Nat} {R : Fz → List Value → α → Prop} {hR : ∀ F F' x p, Le F F' → R F x p → R F' x p} {w0 w w' : World} {F0 F F' : Fz} {L : List Blk} {M : List RowP} {v : Value} {l : List α} (S : St w0 F0 w F L M) (g : Gr w F w' F') (ho : Own k R E w.heap.size w' F' v l) : St w0 F0 w' F' L (ownP k R hR E w0.heap.size v l :: M) := by
  have S' := S.gives g
  have hlt := ho.lt
  have ho' : Own k R E w0.heap.size w' F' v l := ho.rebase fun b hb => Nat.le_trans S.gr.below.size (hlt b hb).1
  refine ⟨S'.gr, S'.blk, fun r hr => ?_, S'.bb, fun r hr x hx => ?_, List.pairwise_cons.2 ⟨fun s hs b hb hc => ?_, S'.rr⟩⟩
  · rcases List.mem_cons.1 hr with rfl | hr
    · exact ⟨ho', fun b hb => ⟨(hlt b hb).2, ho.out b hb, Nat.le_trans S.gr.below.size (hlt b hb).1⟩⟩
    · exact S'.row r hr
  · rcases List.mem_cons.1 hr with rfl | hr
    · intro e
      have h1 := (hlt _ e).1
      have h2 := S.blk_lt hx
      omega
    · exact S'.rb r hr x hx
  · have h1 := (hlt b hb).1
    have h2 := ((S.row s hs).2 b hc).1
    omega
theorem stGivesO {P : Program} {ops : Array Oper} {Q : Exit → Act → World → Prop} {a : Act} {rest : List Oper} {o : Oper} {kf : FuncId} {vs : Array Value} {w0 w : World} {F0 F : Fz} {L : List Blk} {M : List RowP} {α : Type} {k E : Nat} {R : Fz → List Value → α → Prop} (hR : ∀ F F' x p, Le F F' → R F x p → R F' x p) {l : List α} (S : St w0 F0 w F L M) (hw : Region.wanted o (yielded ops a.tmps) = true)
    (hr : (execOp a.eval o).run P w = .ok (.enter kf vs) w) (hc : Calls P kf vs w (GivesO w F k R E l))
    (h : ∀ v w' F', St w0 F0 w' F' L (ownP k R hR E w0.heap.size v l :: M) → Le F F' → WL P ops Q rest (a.put o.dst v) w') : WL P ops Q (o :: rest) a w :=
  doC hw hr hc fun e w' ⟨v, F', he, g, ho⟩ => ⟨v, he, h v w' F' (S.addRow g ho) (g.le S.sat)⟩
/-- An owned row is read. -/
theorem own_peek {α : Type} {k E base : Nat} {R : Fz → List Value → α → Prop} {hR : ∀ F F' x p, Le F F' → R F x p → R F' x p} {w0 w : World} {F0 F : Fz} {L : List Blk} {M : List RowP} {v : Value} {l : List α} (S : St w0 F0 w F L M) {i : Nat} (h : M[i]? = some (ownP k R hR E base v l)) : ∃ F', Sat w F' ∧ Le F F' ∧ Sl k R F' v l := (S.own h).peek hR S.sat
end Go.Proofs.Yteefnnnbbmbmcaa
