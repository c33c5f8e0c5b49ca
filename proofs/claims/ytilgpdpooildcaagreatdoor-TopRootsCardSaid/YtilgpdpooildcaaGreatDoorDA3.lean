/- Rules, plain laws and walks: S2 S3 S4 S5 S6 TY TI R2 N1 P10 P11 T1a T1b T2 -/
import Derived.Test.YtilgpdpooildcaaGreatDoorDA2
import Derived.Maps.AppendAt
import Derived.Laws.IdiomCopy
import Derived.ArgAppend
import Derived.Lib.AppendZerosOnto
import Derived.Lib.Overlaps
import Derived.Laws.MakeOwn
import Derived.Test.YtilgpdpooildcaaGreatDoorDA1
import Derived.Lib.SmallJoins
import Derived.Lib.Bytealg
namespace Go.Proofs.YtilgpdpooildcaaGreatDoor
set_option maxHeartbeats 8000000
open Go.RowKit
set_option linter.unusedVariables false
structure Pl where
  name : By
  key : By
  value : By
  gone : Bool
structure Ft where
  kind : Int
  a : Int
  data : By
theorem Prs.get {F : Fz} {a : Option Addr} {n c : Nat} {l : List Pr} (h : Prs F (.slice a n c) l) {i : Nat} {p : Pr} (hp : l[i]? = some p) :
    ∃ b o, a = some ⟨b, o, none⟩ ∧ ∃ xa xc ya yc, bM F b (o + i * 2) = some (.slice xa p.1.length xc) ∧ bM F b (o + i * 2 + 1) = some (.slice ya p.2.length yc) ∧ Bs F (.slice xa p.1.length xc) p.1 ∧ Bs F (.slice ya p.2.length yc) p.2 := by
 obtain ⟨hi, rfl⟩ := List.getElem?_eq_some_iff.1 hp
 have hn := h.len
 obtain ⟨b, o, e, h1⟩ := Prs.at h (by omega)
 obtain ⟨x, y, c1, c2, r1, r2⟩ := h1 i hi
 obtain ⟨xa, xc, rfl, _⟩ := r1.shape
 obtain ⟨ya, yc, rfl, _⟩ := r2.shape
 exact ⟨b, o, e, xa, xc, ya, yc, c1, c2, r1, r2⟩
theorem Prs.mono {F F' : Fz} {v : Value} {l : List Pr} (h : Prs F v l) (hl : Le F F') : Prs F' v l := Sl.mono PrC.mono h hl
theorem Prs.oneCell {F : Fz} {v : Value} {l : List Pr} (h : Prs F v l) : v.oneCell' = true := by obtain ⟨a, c, rfl, _⟩ := Sl.shape h; rfl
theorem Sl.takeN {α : Type} {k : Nat} {R : Fz → List Value → α → Prop} {F : Fz} {a : Option Addr} {n c : Nat} {l : List α} (h : Sl k R F (.slice a n c) l) {m : Nat} (hm : m ≤ n) : Sl k R F (.slice a m c) (l.take m) := by
 have hn := h.len
 obtain ⟨el, h1, h2, h3⟩ := h
 have h4 := Rw.takeN (by rw [hn] at h1; exact h1) (show m ≤ l.length by omega) k (F := F) (a := a) (c := c) (cs := el.flatten)
 refine ⟨el.take m, ?_, h2.take m, fun x hx => h3 x (List.mem_of_mem_take hx)⟩
 have e : (el.take m).flatten = el.flatten.take (m * k) := by
  clear h1 h2 h4 hn hm
  induction el generalizing m with
  | nil => simp
  | cons x el ih =>
   cases m with
   | zero => simp
   | succ m =>
    have hx := h3 x (by simp)
    simp only [List.take_succ_cons, List.flatten_cons]
    rw [ih (fun y hy => h3 y (by simp [hy])), Nat.add_mul, Nat.one_mul, List.take_append, hx, show m * k + k - k = m * k from by omega, List.take_of_length_le (show x.length ≤ m * k + k by omega)]
 rw [e, List.length_take, Nat.min_eq_left (by omega)]
 exact h4
theorem Sl.dropN {α : Type} {k : Nat} {R : Fz → List Value → α → Prop} {F : Fz} {b o n c : Nat} {l : List α} (h : Sl k R F (.slice (some ⟨b, o, none⟩) n c) l) {m n' c' : Nat} (hm : m ≤ n) (e1 : n - m = n') (e2 : c - m = c') : Sl k R F (.slice (some ⟨b, o + m * k, none⟩) n' c') (l.drop m) := by
 have hn := h.len
 subst e1; subst e2
 obtain ⟨el, h1, h2, h3⟩ := h
 obtain ⟨a', c0, q1, q2, q3, q4, q5⟩ := h1
 cases q1
 have hll := h2.len
 have e : (el.drop m).flatten = el.flatten.drop (m * k) := by
  clear h2 q5 hn hm q2 hll
  induction el generalizing m with
  | nil => simp
  | cons x el ih =>
   cases m with
   | zero => simp
   | succ m =>
    have hx := h3 x (by simp)
    simp only [List.drop_succ_cons, List.flatten_cons]
    rw [ih (fun y hy => h3 y (by simp [hy])), Nat.add_mul, Nat.one_mul, List.drop_append, hx, show m * k + k - k = m * k from by omega, List.drop_of_length_le (show x.length ≤ m * k + k by omega)]
    simp
 refine ⟨el.drop m, ⟨_, _, by rw [List.length_drop, hn], by rw [List.length_drop]; omega, by omega, (fun h => by cases h), ?_⟩, h2.drop m, fun x hx => h3 x (List.mem_of_mem_drop hx)⟩
 rw [e]
 rcases q5 with q5 | ⟨b', o', q6, q7⟩
 left; rw [q5]; simp
 right
 cases q6
 refine ⟨b, o + m * k, rfl, fun j u hu => ?_⟩
 rw [List.getElem?_drop] at hu
 have := q7 _ u hu
 rwa [← Nat.add_assoc] at this
def TnC (F : Fz) (cs : List Value) (p : (By × List Pr)) : Prop := ∃ a0 a1, cs = [a0, a1] ∧ Bs F a0 p.1 ∧ Prs F a1 p.2
theorem TnC.mono (F F' : Fz) (x : List Value) (p : (By × List Pr)) (hl : Le F F') (h : TnC F x p) : TnC F' x p := by
 obtain ⟨a0, a1, rfl, h0, h1⟩ := h
 exact ⟨a0, a1, rfl, h0.mono hl, h1.mono hl⟩
theorem TnC.oneCell {F : Fz} {cs : List Value} {p : (By × List Pr)} (h : TnC F cs p) : ∀ u ∈ cs, u.oneCell' = true := by
 obtain ⟨a0, a1, rfl, h0, h1⟩ := h
 intro u hu
 simp only [List.mem_cons, List.not_mem_nil, or_false] at hu
 rcases hu with rfl | rfl
 ·exact h0.oneCell
 ·exact h1.oneCell
abbrev Tns (F : Fz) (v : Value) (l : List (By × List Pr)) : Prop := Sl 2 TnC F v l
theorem Tns.mono {F F' : Fz} {v : Value} {l : List (By × List Pr)} (h : Tns F v l) (hl : Le F F') : Tns F' v l := Sl.mono TnC.mono h hl
theorem Tns.oneCell {F : Fz} {v : Value} {l : List (By × List Pr)} (h : Tns F v l) : v.oneCell' = true := by obtain ⟨a, c, rfl, _⟩ := Sl.shape h; rfl
theorem Tns.get {F : Fz} {a : Option Addr} {n c : Nat} {l : List (By × List Pr)} (h : Tns F (.slice a n c) l) {i : Nat} {p : (By × List Pr)} (hp : l[i]? = some p) :
    ∃ b o, a = some ⟨b, o, none⟩ ∧ ∃ x0 y0 x1 y1, bM F b (o + i * 2) = some (.slice x0 p.1.length y0) ∧ bM F b (o + i * 2 + 1) = some (.slice x1 p.2.length y1) ∧ Bs F (.slice x0 p.1.length y0) p.1 ∧ Prs F (.slice x1 p.2.length y1) p.2 := by
 obtain ⟨hi, rfl⟩ := List.getElem?_eq_some_iff.1 hp
 have hn := Sl.len h
 obtain ⟨b, o, e, h1⟩ := Sl.at h (by omega) (by omega)
 obtain ⟨cs, q1, ⟨a0, a1, rfl, h0, h1⟩, q3⟩ := h1 i hi
 obtain ⟨x0, y0, rfl, _⟩ := h0.shape
 obtain ⟨x1, y1, rfl, _⟩ := h1.shape
 exact ⟨b, o, e, x0, y0, x1, y1, by have := q3 0 (by simp); simpa [Nat.add_assoc] using this, by have := q3 1 (by simp); simpa [Nat.add_assoc] using this, h0, h1⟩
def TnV (F : Fz) (v : Value) (p : (By × List Pr)) : Prop := ∃ x0 y0 x1 y1, v = .agg #[.slice x0 p.1.length y0, .slice x1 p.2.length y1] ∧ Bs F (.slice x0 p.1.length y0) p.1 ∧ Prs F (.slice x1 p.2.length y1) p.2
theorem TnV.mono {F F' : Fz} {v : Value} {p : (By × List Pr)} (h : TnV F v p) (hl : Le F F') : TnV F' v p := by
 obtain ⟨x0, y0, x1, y1, rfl, h0, h1⟩ := h
 exact ⟨x0, y0, x1, y1, rfl, h0.mono hl, h1.mono hl⟩
def WrC (F : Fz) (cs : List Value) (p : Wr) : Prop := ∃ a0 a1 a2 a3, cs = [a0, a1, a2, a3] ∧ Bs F a0 p.name ∧ Bs F a1 p.key ∧ a2 = .bool p.gone ∧ Bs F a3 p.value
theorem WrC.mono (F F' : Fz) (x : List Value) (p : Wr) (hl : Le F F') (h : WrC F x p) : WrC F' x p := by
 obtain ⟨a0, a1, a2, a3, rfl, h0, h1, h2, h3⟩ := h
 exact ⟨a0, a1, a2, a3, rfl, h0.mono hl, h1.mono hl, h2, h3.mono hl⟩
theorem WrC.oneCell {F : Fz} {cs : List Value} {p : Wr} (h : WrC F cs p) : ∀ u ∈ cs, u.oneCell' = true := by
 obtain ⟨a0, a1, a2, a3, rfl, h0, h1, h2, h3⟩ := h
 intro u hu
 simp only [List.mem_cons, List.not_mem_nil, or_false] at hu
 rcases hu with rfl | rfl | rfl | rfl
 ·exact h0.oneCell
 ·exact h1.oneCell
 ·rw [h2]; rfl
 ·exact h3.oneCell
abbrev Wrs (F : Fz) (v : Value) (l : List Wr) : Prop := Sl 4 WrC F v l
theorem Wrs.mono {F F' : Fz} {v : Value} {l : List Wr} (h : Wrs F v l) (hl : Le F F') : Wrs F' v l := Sl.mono WrC.mono h hl
theorem Wrs.oneCell {F : Fz} {v : Value} {l : List Wr} (h : Wrs F v l) : v.oneCell' = true := by obtain ⟨a, c, rfl, _⟩ := Sl.shape h; rfl
theorem Wrs.get {F : Fz} {a : Option Addr} {n c : Nat} {l : List Wr} (h : Wrs F (.slice a n c) l) {i : Nat} {p : Wr} (hp : l[i]? = some p) :
    ∃ b o, a = some ⟨b, o, none⟩ ∧ ∃ x0 y0 x1 y1 x3 y3, bM F b (o + i * 4) = some (.slice x0 p.name.length y0) ∧ bM F b (o + i * 4 + 1) = some (.slice x1 p.key.length y1) ∧ bM F b (o + i * 4 + 2) = some (.bool p.gone) ∧ bM F b (o + i * 4 + 3) = some (.slice x3 p.value.length y3) ∧ Bs F (.slice x0 p.name.length y0) p.name ∧ Bs F (.slice x1 p.key.length y1) p.key ∧ Bs F (.slice x3 p.value.length y3) p.value := by
 obtain ⟨hi, rfl⟩ := List.getElem?_eq_some_iff.1 hp
 have hn := Sl.len h
 obtain ⟨b, o, e, h1⟩ := Sl.at h (by omega) (by omega)
 obtain ⟨cs, q1, ⟨a0, a1, a2, a3, rfl, h0, h1, h2, h3⟩, q3⟩ := h1 i hi
 obtain ⟨x0, y0, rfl, _⟩ := h0.shape
 obtain ⟨x1, y1, rfl, _⟩ := h1.shape
 subst h2
 obtain ⟨x3, y3, rfl, _⟩ := h3.shape
 exact ⟨b, o, e, x0, y0, x1, y1, x3, y3, by have := q3 0 (by simp); simpa [Nat.add_assoc] using this, by have := q3 1 (by simp); simpa [Nat.add_assoc] using this, by have := q3 2 (by simp); simpa [Nat.add_assoc] using this, by have := q3 3 (by simp); simpa [Nat.add_assoc] using this, h0, h1, h3⟩
def WrV (F : Fz) (v : Value) (p : Wr) : Prop := ∃ x0 y0 x1 y1 x3 y3, v = .agg #[.slice x0 p.name.length y0, .slice x1 p.key.length y1, .bool p.gone, .slice x3 p.value.length y3] ∧ Bs F (.slice x0 p.name.length y0) p.name ∧ Bs F (.slice x1 p.key.length y1) p.key ∧ Bs F (.slice x3 p.value.length y3) p.value
theorem WrV.mono {F F' : Fz} {v : Value} {p : Wr} (h : WrV F v p) (hl : Le F F') : WrV F' v p := by
 obtain ⟨x0, y0, x1, y1, x3, y3, rfl, h0, h1, h2⟩ := h
 exact ⟨x0, y0, x1, y1, x3, y3, rfl, h0.mono hl, h1.mono hl, h2.mono hl⟩
def RdC (F : Fz) (cs : List Value) (p : Rd) : Prop := ∃ a0 a1 a2 a3, cs = [a0, a1, a2, a3] ∧ Bs F a0 p.name ∧ Bs F a1 p.key ∧ a2 = .bool p.wide ∧ Bs F a3 p.last
theorem RdC.mono (F F' : Fz) (x : List Value) (p : Rd) (hl : Le F F') (h : RdC F x p) : RdC F' x p := by
 obtain ⟨a0, a1, a2, a3, rfl, h0, h1, h2, h3⟩ := h
 exact ⟨a0, a1, a2, a3, rfl, h0.mono hl, h1.mono hl, h2, h3.mono hl⟩
theorem RdC.oneCell {F : Fz} {cs : List Value} {p : Rd} (h : RdC F cs p) : ∀ u ∈ cs, u.oneCell' = true := by
 obtain ⟨a0, a1, a2, a3, rfl, h0, h1, h2, h3⟩ := h
 intro u hu
 simp only [List.mem_cons, List.not_mem_nil, or_false] at hu
 rcases hu with rfl | rfl | rfl | rfl
 ·exact h0.oneCell
 ·exact h1.oneCell
 ·rw [h2]; rfl
 ·exact h3.oneCell
abbrev Rds (F : Fz) (v : Value) (l : List Rd) : Prop := Sl 4 RdC F v l
theorem Rds.mono {F F' : Fz} {v : Value} {l : List Rd} (h : Rds F v l) (hl : Le F F') : Rds F' v l := Sl.mono RdC.mono h hl
theorem Rds.oneCell {F : Fz} {v : Value} {l : List Rd} (h : Rds F v l) : v.oneCell' = true := by obtain ⟨a, c, rfl, _⟩ := Sl.shape h; rfl
theorem Rds.get {F : Fz} {a : Option Addr} {n c : Nat} {l : List Rd} (h : Rds F (.slice a n c) l) {i : Nat} {p : Rd} (hp : l[i]? = some p) :
    ∃ b o, a = some ⟨b, o, none⟩ ∧ ∃ x0 y0 x1 y1 x3 y3, bM F b (o + i * 4) = some (.slice x0 p.name.length y0) ∧ bM F b (o + i * 4 + 1) = some (.slice x1 p.key.length y1) ∧ bM F b (o + i * 4 + 2) = some (.bool p.wide) ∧ bM F b (o + i * 4 + 3) = some (.slice x3 p.last.length y3) ∧ Bs F (.slice x0 p.name.length y0) p.name ∧ Bs F (.slice x1 p.key.length y1) p.key ∧ Bs F (.slice x3 p.last.length y3) p.last := by
 obtain ⟨hi, rfl⟩ := List.getElem?_eq_some_iff.1 hp
 have hn := Sl.len h
 obtain ⟨b, o, e, h1⟩ := Sl.at h (by omega) (by omega)
 obtain ⟨cs, q1, ⟨a0, a1, a2, a3, rfl, h0, h1, h2, h3⟩, q3⟩ := h1 i hi
 obtain ⟨x0, y0, rfl, _⟩ := h0.shape
 obtain ⟨x1, y1, rfl, _⟩ := h1.shape
 subst h2
 obtain ⟨x3, y3, rfl, _⟩ := h3.shape
 exact ⟨b, o, e, x0, y0, x1, y1, x3, y3, by have := q3 0 (by simp); simpa [Nat.add_assoc] using this, by have := q3 1 (by simp); simpa [Nat.add_assoc] using this, by have := q3 2 (by simp); simpa [Nat.add_assoc] using this, by have := q3 3 (by simp); simpa [Nat.add_assoc] using this, h0, h1, h3⟩
def RdV (F : Fz) (v : Value) (p : Rd) : Prop := ∃ x0 y0 x1 y1 x3 y3, v = .agg #[.slice x0 p.name.length y0, .slice x1 p.key.length y1, .bool p.wide, .slice x3 p.last.length y3] ∧ Bs F (.slice x0 p.name.length y0) p.name ∧ Bs F (.slice x1 p.key.length y1) p.key ∧ Bs F (.slice x3 p.last.length y3) p.last
theorem RdV.mono {F F' : Fz} {v : Value} {p : Rd} (h : RdV F v p) (hl : Le F F') : RdV F' v p := by
 obtain ⟨x0, y0, x1, y1, x3, y3, rfl, h0, h1, h2⟩ := h
 exact ⟨x0, y0, x1, y1, x3, y3, rfl, h0.mono hl, h1.mono hl, h2.mono hl⟩
def CmC (F : Fz) (cs : List Value) (p : Cm) : Prop := ∃ a0 a1, cs = [a0, a1] ∧ a0 = .int .i64 ((p.turn : Nat) : Int) ∧ Wrs F a1 p.writes
theorem CmC.mono (F F' : Fz) (x : List Value) (p : Cm) (hl : Le F F') (h : CmC F x p) : CmC F' x p := by
 obtain ⟨a0, a1, rfl, h0, h1⟩ := h
 exact ⟨a0, a1, rfl, h0, h1.mono hl⟩
theorem CmC.oneCell {F : Fz} {cs : List Value} {p : Cm} (h : CmC F cs p) : ∀ u ∈ cs, u.oneCell' = true := by
 obtain ⟨a0, a1, rfl, h0, h1⟩ := h
 intro u hu
 simp only [List.mem_cons, List.not_mem_nil, or_false] at hu
 rcases hu with rfl | rfl
 ·rw [h0]; rfl
 ·exact h1.oneCell
abbrev Cms (F : Fz) (v : Value) (l : List Cm) : Prop := Sl 2 CmC F v l
theorem Cms.mono {F F' : Fz} {v : Value} {l : List Cm} (h : Cms F v l) (hl : Le F F') : Cms F' v l := Sl.mono CmC.mono h hl
theorem Cms.oneCell {F : Fz} {v : Value} {l : List Cm} (h : Cms F v l) : v.oneCell' = true := by obtain ⟨a, c, rfl, _⟩ := Sl.shape h; rfl
theorem Cms.get {F : Fz} {a : Option Addr} {n c : Nat} {l : List Cm} (h : Cms F (.slice a n c) l) {i : Nat} {p : Cm} (hp : l[i]? = some p) :
    ∃ b o, a = some ⟨b, o, none⟩ ∧ ∃ x1 y1, bM F b (o + i * 2) = some (.int .i64 ((p.turn : Nat) : Int)) ∧ bM F b (o + i * 2 + 1) = some (.slice x1 p.writes.length y1) ∧ Wrs F (.slice x1 p.writes.length y1) p.writes := by
 obtain ⟨hi, rfl⟩ := List.getElem?_eq_some_iff.1 hp
 have hn := Sl.len h
 obtain ⟨b, o, e, h1⟩ := Sl.at h (by omega) (by omega)
 obtain ⟨cs, q1, ⟨a0, a1, rfl, h0, h1⟩, q3⟩ := h1 i hi
 subst h0
 obtain ⟨x1, y1, rfl, _⟩ := h1.shape
 exact ⟨b, o, e, x1, y1, by have := q3 0 (by simp); simpa [Nat.add_assoc] using this, by have := q3 1 (by simp); simpa [Nat.add_assoc] using this, h1⟩
def CmV (F : Fz) (v : Value) (p : Cm) : Prop := ∃ x1 y1, v = .agg #[.int .i64 ((p.turn : Nat) : Int), .slice x1 p.writes.length y1] ∧ Wrs F (.slice x1 p.writes.length y1) p.writes
theorem CmV.mono {F F' : Fz} {v : Value} {p : Cm} (h : CmV F v p) (hl : Le F F') : CmV F' v p := by
 obtain ⟨x1, y1, rfl, h0⟩ := h
 exact ⟨x1, y1, rfl, h0.mono hl⟩
def StpC (F : Fz) (cs : List Value) (p : Stp) : Prop := ∃ a0 a1 a2, cs = [a0, a1, a2] ∧ a0 = .int .i64 ((p.bit : Nat) : Int) ∧ a1 = .bool p.right ∧ Bs F a2 p.other
theorem StpC.mono (F F' : Fz) (x : List Value) (p : Stp) (hl : Le F F') (h : StpC F x p) : StpC F' x p := by
 obtain ⟨a0, a1, a2, rfl, h0, h1, h2⟩ := h
 exact ⟨a0, a1, a2, rfl, h0, h1, h2.mono hl⟩
theorem StpC.oneCell {F : Fz} {cs : List Value} {p : Stp} (h : StpC F cs p) : ∀ u ∈ cs, u.oneCell' = true := by
 obtain ⟨a0, a1, a2, rfl, h0, h1, h2⟩ := h
 intro u hu
 simp only [List.mem_cons, List.not_mem_nil, or_false] at hu
 rcases hu with rfl | rfl | rfl
 ·rw [h0]; rfl
 ·rw [h1]; rfl
 ·exact h2.oneCell
abbrev Stps (F : Fz) (v : Value) (l : List Stp) : Prop := Sl 3 StpC F v l
theorem Stps.mono {F F' : Fz} {v : Value} {l : List Stp} (h : Stps F v l) (hl : Le F F') : Stps F' v l := Sl.mono StpC.mono h hl
theorem Stps.oneCell {F : Fz} {v : Value} {l : List Stp} (h : Stps F v l) : v.oneCell' = true := by obtain ⟨a, c, rfl, _⟩ := Sl.shape h; rfl
theorem Stps.get {F : Fz} {a : Option Addr} {n c : Nat} {l : List Stp} (h : Stps F (.slice a n c) l) {i : Nat} {p : Stp} (hp : l[i]? = some p) :
    ∃ b o, a = some ⟨b, o, none⟩ ∧ ∃ x2 y2, bM F b (o + i * 3) = some (.int .i64 ((p.bit : Nat) : Int)) ∧ bM F b (o + i * 3 + 1) = some (.bool p.right) ∧ bM F b (o + i * 3 + 2) = some (.slice x2 p.other.length y2) ∧ Bs F (.slice x2 p.other.length y2) p.other := by
 obtain ⟨hi, rfl⟩ := List.getElem?_eq_some_iff.1 hp
 have hn := Sl.len h
 obtain ⟨b, o, e, h1⟩ := Sl.at h (by omega) (by omega)
 obtain ⟨cs, q1, ⟨a0, a1, a2, rfl, h0, h1, h2⟩, q3⟩ := h1 i hi
 subst h0
 subst h1
 obtain ⟨x2, y2, rfl, _⟩ := h2.shape
 exact ⟨b, o, e, x2, y2, by have := q3 0 (by simp); simpa [Nat.add_assoc] using this, by have := q3 1 (by simp); simpa [Nat.add_assoc] using this, by have := q3 2 (by simp); simpa [Nat.add_assoc] using this, h2⟩
def StpV (F : Fz) (v : Value) (p : Stp) : Prop := ∃ x2 y2, v = .agg #[.int .i64 ((p.bit : Nat) : Int), .bool p.right, .slice x2 p.other.length y2] ∧ Bs F (.slice x2 p.other.length y2) p.other
theorem StpV.mono {F F' : Fz} {v : Value} {p : Stp} (h : StpV F v p) (hl : Le F F') : StpV F' v p := by
 obtain ⟨x2, y2, rfl, h0⟩ := h
 exact ⟨x2, y2, rfl, h0.mono hl⟩
def PlC (F : Fz) (cs : List Value) (p : Pl) : Prop := ∃ a0 a1 a2 a3, cs = [a0, a1, a2, a3] ∧ Bs F a0 p.name ∧ Bs F a1 p.key ∧ Bs F a2 p.value ∧ a3 = .bool p.gone
theorem PlC.mono (F F' : Fz) (x : List Value) (p : Pl) (hl : Le F F') (h : PlC F x p) : PlC F' x p := by
 obtain ⟨a0, a1, a2, a3, rfl, h0, h1, h2, h3⟩ := h
 exact ⟨a0, a1, a2, a3, rfl, h0.mono hl, h1.mono hl, h2.mono hl, h3⟩
theorem PlC.oneCell {F : Fz} {cs : List Value} {p : Pl} (h : PlC F cs p) : ∀ u ∈ cs, u.oneCell' = true := by
 obtain ⟨a0, a1, a2, a3, rfl, h0, h1, h2, h3⟩ := h
 intro u hu
 simp only [List.mem_cons, List.not_mem_nil, or_false] at hu
 rcases hu with rfl | rfl | rfl | rfl
 ·exact h0.oneCell
 ·exact h1.oneCell
 ·exact h2.oneCell
 ·rw [h3]; rfl
abbrev Pls (F : Fz) (v : Value) (l : List Pl) : Prop := Sl 4 PlC F v l
theorem Pls.mono {F F' : Fz} {v : Value} {l : List Pl} (h : Pls F v l) (hl : Le F F') : Pls F' v l := Sl.mono PlC.mono h hl
theorem Pls.oneCell {F : Fz} {v : Value} {l : List Pl} (h : Pls F v l) : v.oneCell' = true := by obtain ⟨a, c, rfl, _⟩ := Sl.shape h; rfl
theorem Pls.get {F : Fz} {a : Option Addr} {n c : Nat} {l : List Pl} (h : Pls F (.slice a n c) l) {i : Nat} {p : Pl} (hp : l[i]? = some p) :
    ∃ b o, a = some ⟨b, o, none⟩ ∧ ∃ x0 y0 x1 y1 x2 y2, bM F b (o + i * 4) = some (.slice x0 p.name.length y0) ∧ bM F b (o + i * 4 + 1) = some (.slice x1 p.key.length y1) ∧ bM F b (o + i * 4 + 2) = some (.slice x2 p.value.length y2) ∧ bM F b (o + i * 4 + 3) = some (.bool p.gone) ∧ Bs F (.slice x0 p.name.length y0) p.name ∧ Bs F (.slice x1 p.key.length y1) p.key ∧ Bs F (.slice x2 p.value.length y2) p.value := by
 obtain ⟨hi, rfl⟩ := List.getElem?_eq_some_iff.1 hp
 have hn := Sl.len h
 obtain ⟨b, o, e, h1⟩ := Sl.at h (by omega) (by omega)
 obtain ⟨cs, q1, ⟨a0, a1, a2, a3, rfl, h0, h1, h2, h3⟩, q3⟩ := h1 i hi
 obtain ⟨x0, y0, rfl, _⟩ := h0.shape
 obtain ⟨x1, y1, rfl, _⟩ := h1.shape
 obtain ⟨x2, y2, rfl, _⟩ := h2.shape
 subst h3
 exact ⟨b, o, e, x0, y0, x1, y1, x2, y2, by have := q3 0 (by simp); simpa [Nat.add_assoc] using this, by have := q3 1 (by simp); simpa [Nat.add_assoc] using this, by have := q3 2 (by simp); simpa [Nat.add_assoc] using this, by have := q3 3 (by simp); simpa [Nat.add_assoc] using this, h0, h1, h2⟩
def PlV (F : Fz) (v : Value) (p : Pl) : Prop := ∃ x0 y0 x1 y1 x2 y2, v = .agg #[.slice x0 p.name.length y0, .slice x1 p.key.length y1, .slice x2 p.value.length y2, .bool p.gone] ∧ Bs F (.slice x0 p.name.length y0) p.name ∧ Bs F (.slice x1 p.key.length y1) p.key ∧ Bs F (.slice x2 p.value.length y2) p.value
theorem PlV.mono {F F' : Fz} {v : Value} {p : Pl} (h : PlV F v p) (hl : Le F F') : PlV F' v p := by
 obtain ⟨x0, y0, x1, y1, x2, y2, rfl, h0, h1, h2⟩ := h
 exact ⟨x0, y0, x1, y1, x2, y2, rfl, h0.mono hl, h1.mono hl, h2.mono hl⟩
def FtC (F : Fz) (cs : List Value) (p : Ft) : Prop := ∃ a0 a1 a2, cs = [a0, a1, a2] ∧ a0 = .int .i64 p.kind ∧ a1 = .int .i64 p.a ∧ Bs F a2 p.data
theorem FtC.mono (F F' : Fz) (x : List Value) (p : Ft) (hl : Le F F') (h : FtC F x p) : FtC F' x p := by
 obtain ⟨a0, a1, a2, rfl, h0, h1, h2⟩ := h
 exact ⟨a0, a1, a2, rfl, h0, h1, h2.mono hl⟩
theorem FtC.oneCell {F : Fz} {cs : List Value} {p : Ft} (h : FtC F cs p) : ∀ u ∈ cs, u.oneCell' = true := by
 obtain ⟨a0, a1, a2, rfl, h0, h1, h2⟩ := h
 intro u hu
 simp only [List.mem_cons, List.not_mem_nil, or_false] at hu
 rcases hu with rfl | rfl | rfl
 ·rw [h0]; rfl
 ·rw [h1]; rfl
 ·exact h2.oneCell
abbrev Fts (F : Fz) (v : Value) (l : List Ft) : Prop := Sl 3 FtC F v l
theorem Fts.mono {F F' : Fz} {v : Value} {l : List Ft} (h : Fts F v l) (hl : Le F F') : Fts F' v l := Sl.mono FtC.mono h hl
theorem Fts.oneCell {F : Fz} {v : Value} {l : List Ft} (h : Fts F v l) : v.oneCell' = true := by obtain ⟨a, c, rfl, _⟩ := Sl.shape h; rfl
theorem Fts.get {F : Fz} {a : Option Addr} {n c : Nat} {l : List Ft} (h : Fts F (.slice a n c) l) {i : Nat} {p : Ft} (hp : l[i]? = some p) :
    ∃ b o, a = some ⟨b, o, none⟩ ∧ ∃ x2 y2, bM F b (o + i * 3) = some (.int .i64 p.kind) ∧ bM F b (o + i * 3 + 1) = some (.int .i64 p.a) ∧ bM F b (o + i * 3 + 2) = some (.slice x2 p.data.length y2) ∧ Bs F (.slice x2 p.data.length y2) p.data := by
 obtain ⟨hi, rfl⟩ := List.getElem?_eq_some_iff.1 hp
 have hn := Sl.len h
 obtain ⟨b, o, e, h1⟩ := Sl.at h (by omega) (by omega)
 obtain ⟨cs, q1, ⟨a0, a1, a2, rfl, h0, h1, h2⟩, q3⟩ := h1 i hi
 subst h0
 subst h1
 obtain ⟨x2, y2, rfl, _⟩ := h2.shape
 exact ⟨b, o, e, x2, y2, by have := q3 0 (by simp); simpa [Nat.add_assoc] using this, by have := q3 1 (by simp); simpa [Nat.add_assoc] using this, by have := q3 2 (by simp); simpa [Nat.add_assoc] using this, h2⟩
def FtV (F : Fz) (v : Value) (p : Ft) : Prop := ∃ x2 y2, v = .agg #[.int .i64 p.kind, .int .i64 p.a, .slice x2 p.data.length y2] ∧ Bs F (.slice x2 p.data.length y2) p.data
theorem FtV.mono {F F' : Fz} {v : Value} {p : Ft} (h : FtV F v p) (hl : Le F F') : FtV F' v p := by
 obtain ⟨x2, y2, rfl, h0⟩ := h
 exact ⟨x2, y2, rfl, h0.mono hl⟩
def Pr2V (F : Fz) (v : Value) (p : Pr) : Prop := ∃ x0 y0 x1 y1, v = .agg #[.slice x0 p.1.length y0, .slice x1 p.2.length y1] ∧ Bs F (.slice x0 p.1.length y0) p.1 ∧ Bs F (.slice x1 p.2.length y1) p.2
theorem Pr2V.mono {F F' : Fz} {v : Value} {p : Pr} (h : Pr2V F v p) (hl : Le F F') : Pr2V F' v p := by
 obtain ⟨x0, y0, x1, y1, rfl, h0, h1⟩ := h
 exact ⟨x0, y0, x1, y1, rfl, h0.mono hl, h1.mono hl⟩
def rV {α : Type} (w : World) (F : Fz) (k : Nat) (R : Fz → List Value → α → Prop) (E : Nat) (l : List α) (e : Ending) (w' : World) : Prop := ∃ v F', e = .returned v ∧ Gr w F w' F' ∧ Own k R E w.heap.size w' F' v l
theorem St.addRow {α : Type} {k E : Nat} {R : Fz → List Value → α → Prop} {hR : ∀ F F' x p, Le F F' → R F x p → R F' x p} {w0 w w' : World} {F0 F F' : Fz} {L : List Blk} {M : List RowP} {v : Value} {l : List α} (S : St w0 F0 w F L M) (g : Gr w F w' F') (ho : Own k R E w.heap.size w' F' v l) : St w0 F0 w' F' L (bZ k R hR E w0.heap.size v l :: M) := by
 have S' := S.gives g
 have hlt := ho.lt
 have ho' : Own k R E w0.heap.size w' F' v l := ho.rebase fun b hb => Nat.le_trans S.gr.below.size (hlt b hb).1
 refine ⟨S'.gr, S'.blk, fun r hr => ?_, S'.bb, fun r hr x hx => ?_, List.pairwise_cons.2 ⟨fun s hs b hb hc => ?_, S'.rr⟩⟩
 rcases List.mem_cons.1 hr with rfl | hr
 exact ⟨ho', fun b hb => ⟨(hlt b hb).2, ho.out b hb, Nat.le_trans S.gr.below.size (hlt b hb).1⟩⟩
 exact S'.row r hr
 rcases List.mem_cons.1 hr with rfl | hr
 intro e
 have h1 := (hlt _ e).1
 have h2 := S.blk_lt hx
 omega
 exact S'.rb r hr x hx
 have h1 := (hlt b hb).1
 have h2 := ((S.row s hs).2 b hc).1
 omega
theorem oJ {P : Program} {ops : Array Oper} {Q : Exit → Act → World → Prop} {a : Act} {rest : List Oper} {o : Oper} {kf : FuncId} {vs : Array Value} {w0 w : World} {F0 F : Fz} {L : List Blk} {M : List RowP} {α : Type} {k E : Nat} {R : Fz → List Value → α → Prop} (hR : ∀ F F' x p, Le F F' → R F x p → R F' x p) {l : List α} (S : St w0 F0 w F L M) (hw : Region.wanted o (yielded ops a.tmps) = true)
    (hr : (execOp a.eval o).run P w = .ok (.enter kf vs) w) (hc : Calls P kf vs w (rV w F k R E l))
    (h : ∀ v w' F', St w0 F0 w' F' L (bZ k R hR E w0.heap.size v l :: M) → Le F F' → WL P ops Q rest (a.put o.dst v) w') : WL P ops Q (o :: rest) a w :=
  doC hw hr hc fun e w' ⟨v, F', he, g, ho⟩ => ⟨v, he, h v w' F' (S.addRow g ho) (g.le S.sat)⟩
theorem oK {α : Type} {k E base : Nat} {R : Fz → List Value → α → Prop} {hR : ∀ F F' x p, Le F F' → R F x p → R F' x p} {w0 w : World} {F0 F : Fz} {L : List Blk} {M : List RowP} {v : Value} {l : List α} (S : St w0 F0 w F L M) {i : Nat} (h : M[i]? = some (bZ k R hR E base v l)) : ∃ F', Sat w F' ∧ Le F F' ∧ Sl k R F' v l := (S.own h).peek hR S.sat
def SlW {α : Type} (w : World) (F : Fz) (k : Nat) (R : Fz → List Value → α → Prop) (v : Value) (l : List α) : Prop :=
  ∃ (el : List (List Value)) (a : Option Addr) (c : Nat), v = .slice a l.length c ∧ l.length ≤ c ∧ c ≤ maxLen ∧ (a = none → l = [] ∧ c = 0) ∧ AllR (R F) el l ∧ (∀ x ∈ el, x.length = k) ∧
    (el.flatten = [] ∨ ∃ b o, a = some ⟨b, o, none⟩ ∧ ∀ j u, el.flatten[j]? = some u → w.cell? ⟨b, o + j, none⟩ = some u)
section
variable {α : Type} {w w' : World} {F F' : Fz} {k : Nat} {R : Fz → List Value → α → Prop} {v : Value} {l : List α}
theorem Sl.toW (h : Sl k R F v l) (hs : Sat w F) : SlW w F k R v l := by
 obtain ⟨el, ⟨a, c, h1, h2, h3, h4, h5⟩, h6, h7⟩ := h
 refine ⟨el, a, c, h1, h2, h3, fun e => ⟨List.eq_nil_of_length_eq_zero (h4 e).1, (h4 e).2⟩, h6, h7, h5.imp id ?_⟩
 rintro ⟨b, o, e, hc⟩
 exact ⟨b, o, e, fun j u hu => hs.cell (hc j u hu)⟩
theorem Own.toW {E base : Nat} (h : Own k R E base w F v l) : SlW w F k R v l := by
 obtain ⟨el, ⟨e1, e2⟩, h2, h3⟩ := h.ex
 rcases e2 with ⟨rfl, h0⟩ | ⟨g, cap, cur, rfl, hb, hg, q1, q2, q3, q4⟩
 have hl : l = [] := List.eq_nil_of_length_eq_zero h0
 subst hl
 exact ⟨el, none, 0, rfl, by simp, Nat.zero_le _, fun _ => ⟨rfl, rfl⟩, h2, h3, .inl (List.eq_nil_of_length_eq_zero (by simpa using e1))⟩
 refine ⟨el, _, cap, rfl, q1, q2, (fun e => by cases e), h2, h3, .inr ⟨g, 0, rfl, fun j u hu => ?_⟩⟩
 rw [← q4, List.getElem?_take] at hu
 split at hu
 rw [Nat.zero_add]; simp only [World.cell?, hg]; simpa using hu
 cases hu
theorem nN {el : List (List Value)} (h3 : ∀ x ∈ el, x.length = k) (m : Nat) : (el.take m).flatten = el.flatten.take (m * k) := by
 induction el generalizing m with
 | nil => simp
 | cons x el ih =>
  cases m with
  | zero => simp
  | succ m =>
   have hx := h3 x (by simp)
   simp only [List.take_succ_cons, List.flatten_cons]
   rw [ih (fun y hy => h3 y (by simp [hy])), Nat.add_mul, Nat.one_mul, List.take_append, hx, show m * k + k - k = m * k from by omega, List.take_of_length_le (show x.length ≤ m * k + k by omega)]
theorem nP {el : List (List Value)} (h3 : ∀ x ∈ el, x.length = k) (m : Nat) : (el.drop m).flatten = el.flatten.drop (m * k) := by
 induction el generalizing m with
 | nil => simp
 | cons x el ih =>
  cases m with
  | zero => simp
  | succ m =>
   have hx := h3 x (by simp)
   simp only [List.drop_succ_cons, List.flatten_cons]
   rw [ih (fun y hy => h3 y (by simp [hy])), Nat.add_mul, Nat.one_mul, List.drop_append, hx, show m * k + k - k = m * k from by omega, List.drop_of_length_le (show x.length ≤ m * k + k by omega)]
   simp
theorem SlW.takeN {a : Option Addr} {n c m : Nat} (h : SlW w F k R (.slice a n c) l) (hm : m ≤ n) : SlW w F k R (.slice a m c) (l.take m) := by
 obtain ⟨el, a', c', h1, h2, h3, h4, h5, h6, h7⟩ := h
 cases h1
 refine ⟨el.take m, a, c, by rw [List.length_take, Nat.min_eq_left hm], by rw [List.length_take]; omega, h3, fun e => ⟨by rw [(h4 e).1]; simp, (h4 e).2⟩, h5.take m, fun x hx => h6 x (List.mem_of_mem_take hx), ?_⟩
 rw [nN h6]
 refine h7.imp (fun e => by rw [e]; simp) ?_
 rintro ⟨b, o, e, hc⟩
 refine ⟨b, o, e, fun j u hu => hc j u ?_⟩
 rw [List.getElem?_take] at hu
 split at hu
 exact hu
 cases hu
theorem SlW.dropN {a : Option Addr} {n c m : Nat} (h : SlW w F k R (.slice a n c) l) (hm : m ≤ n) : SlW w F k R (.slice (if c = m then a else a.map (·.add (m * k))) (n - m) (c - m)) (l.drop m) := by
 obtain ⟨el, a', c', h1, h2, h3, h4, h5, h6, h7⟩ := h
 cases h1
 refine ⟨el.drop m, _, c - m, by rw [List.length_drop], by rw [List.length_drop]; omega, by omega, fun e => ?_, h5.drop m, fun x hx => h6 x (List.mem_of_mem_drop hx), ?_⟩
 cases a with
 | none => obtain ⟨e1, e2⟩ := h4 rfl; subst e1; simp at hm; simp [e2]
 | some a => split at e <;> cases e
 rw [nP h6]
 by_cases hcm : c = m
 left
 have hll := h5.len
 have : (l.drop m) = [] := List.drop_of_length_le (by omega)
 rw [List.drop_of_length_le]
 rw [fO h6, hll]
 exact Nat.mul_le_mul_right k (by omega)
 rw [if_neg hcm]
 refine h7.imp (fun e => by rw [e]; simp) ?_
 rintro ⟨b, o, e, hc⟩
 subst e
 refine ⟨b, o + m * k, by show some (Addr.add ⟨b, o, none⟩ (m * k)) = _; rw [Addr.add_mid], fun j u hu => ?_⟩
 rw [List.getElem?_drop] at hu
 have := hc _ u hu
 rwa [← Nat.add_assoc] at this
theorem SlW.len {a : Option Addr} {n c : Nat} (h : SlW w F k R (.slice a n c) l) : n = l.length := by
 obtain ⟨el, a', c', h1, _⟩ := h; cases h1; rfl
theorem SlW.get {a : Option Addr} {n c : Nat} (h : SlW w F k R (.slice a n c) l) (hk : 0 < k) {i : Nat} {p : α} (hp : l[i]? = some p) : ∃ b o cs, a = some ⟨b, o, none⟩ ∧ cs.length = k ∧ R F cs p ∧ w.rangeAt b (o + i * k) cs := by
 obtain ⟨el, a', c', h1, h2, h3, h4, h5, h6, h7⟩ := h
 cases h1
 obtain ⟨hi, rfl⟩ := List.getElem?_eq_some_iff.1 hp
 have hll := h5.len
 have hne : el.flatten ≠ [] := by
  intro e
  have := congrArg List.length e
  rw [fO h6, hll] at this
  have := Nat.mul_pos (show 0 < l.length by omega) hk
  simp at *
  omega
 obtain ⟨b, o, e, hc⟩ := h7.resolve_left hne
 refine ⟨b, o, el[i]'(by omega), e, h6 _ (List.getElem_mem _), h5.get i (by omega) hi, fun j u hu => ?_⟩
 have hj : j < k := by
  have := (List.getElem?_eq_some_iff.1 hu).1
  rwa [h6 _ (List.getElem_mem _)] at this
 rw [Nat.add_assoc]
 exact hc _ _ (by rw [lU h6 i (by omega) j hj]; exact hu)
end
section
variable {P : Program} {w0 w w' : World} {F0 F : Fz} {L : List Blk} {M : List RowP} {α : Type} {k base E : Nat} {R : Fz → List Value → α → Prop} {hR : ∀ F F' x p, Le F F' → R F x p → R F' x p} {v : Value} {l : List α}
theorem eE {ops : Array Oper} {Q : Exit → Act → World → Prop} {a : Act} {rest : List Oper} {d : Option Tmp} {t T : TypeId} {x s : Operand} {pos : String} {after : Array Edge} {guard : Option (Nat × Bool)}
    {u : Value} {m : List α} {r : Nat} (S : St w0 F0 w F L M) (hw : Region.wanted ⟨d, .call ⟨.builtin .append, #[s, x], #[T, T]⟩, t, pos, after, guard⟩ (yielded ops a.tmps) = true)
    (inf : TypeInfo) (z : Value) (bytes : Nat) (ht : P.underlying T = some (.slice E)) (hi : P.info? E = some inf) (hz : inf.zero = some z) (hsize : inf.size = k) (hby : inf.bytes = bytes) (hzs : z.cells.size = k) (hsz : 0 < k)
    (hs : a.eval s = v) (hx : a.eval x = u) (hM : M[r]? = some (bZ k R hR E base v l)) (hu : SlW w F k R u m) (h1 : ∀ F cs p, R F cs p → ∀ u ∈ cs, u.oneCell' = true)
    (hb : w0.heap.size ≤ base) (hb2 : base ≤ w.heap.size) (a0 : l.length + m.length ≤ maxLen) (hbytes : (l.length + m.length) * bytes ≤ 140737488355328)
    (h : ∀ v' w', St w0 F0 w' F L (M.set r (bZ k R hR E base v' (l ++ m))) → (v' = .slice none 0 0 → l = [] ∧ m = []) → WL P ops Q rest (a.put d v') w') : WL P ops Q (⟨d, .call ⟨.builtin .append, #[s, x], #[T, T]⟩, t, pos, after, guard⟩ :: rest) a w := by
 obtain ⟨el, e1, e2, e3⟩ := (S.own hM).ex
 obtain ⟨nl, ad, c, rfl, q2, q3, q4, q5, q6, q7⟩ := hu
 have hnl := q5.len
 have hflat : nl.flatten.length = m.length * k := by rw [fO q6, hnl]
 have hone : ∀ u ∈ nl.flatten, u.oneCell' = true := by
  intro u hu
  obtain ⟨y, hy, huy⟩ := List.mem_flatten.1 hu
  obtain ⟨i, hi', rfl⟩ := List.mem_iff_getElem.1 hy
  exact h1 _ _ _ (q5.get i hi' (by omega)) u huy
 cases ad with
 | none =>
  obtain ⟨hm0, hc0⟩ := q4 rfl
  subst hm0
  have hrun := run_append_owned_none (P := P) w base T t E inf k ht hi v l.length el.flatten e1
  refine do_ hw v ?_ (h v w ?_ (fun e => ?_))
  simp only [execOp, resolve, invoke, builtin, Sem.run_bind, Sem.run_pure, Result.andThen_ok, List.map_toArray, List.map_cons, List.map_nil, hs, hx]
  simp only [List.length_nil, hc0]
  rw [hrun]; rfl
  rw [List.append_nil]
  have : M.set r (bZ k R hR E base v l) = M := by
   obtain ⟨h1, h2⟩ := List.getElem?_eq_some_iff.1 hM
   rw [← h2]; simp
  rw [this]; exact S
  refine ⟨?_, rfl⟩
  subst e
  obtain ⟨_, ⟨_, h0⟩ | ⟨_, _, _, h0, _⟩⟩ := e1
  exact List.eq_nil_of_length_eq_zero h0
  cases h0
 | some ad =>
  have hnews : ∀ j u, nl.flatten[j]? = some u → w.cell? (ad.add j) = some u := by
   intro j u hu
   rcases q7 with q7 | ⟨b, o, e, hc⟩
   rw [q7] at hu; simp at hu
   cases e; rw [Addr.add_mid]; exact hc j u hu
  obtain ⟨v', w', hrun, h2, h3, h4, h5⟩ := run_append_own_at (P := P) w base T t E inf z k bytes ht hi hz hsize hby hzs hsz v l.length el.flatten e1 ad m.length c nl.flatten hflat hnews hone a0 hbytes hb2
  have hf : ∀ g, v'.ownBlock = some g → v.ownBlock = some g ∨ w.heap.size ≤ g := by
   intro g hg
   rcases h5 with h5 | h5
   left; rw [← h5]; exact hg
   right; rw [h5] at hg; cases hg; exact Nat.le_refl _
  have hout : ∀ g, v'.ownBlock = some g → F g = none := by
   intro g hg
   rcases h5 with h5 | h5
   exact (S.own hM).out g (by rw [← h5]; exact hg)
   rw [h5] at hg; cases hg; exact S.sat.out (Nat.le_refl _)
  have hown : Own k R E base w' F v' (l ++ m) := by
   refine ⟨⟨el ++ nl, ?_, e2.append q5, fun y hy => ?_⟩, hout⟩
   rw [List.flatten_append, List.length_append]; exact h2
   rcases List.mem_append.1 hy with hy | hy
   exact e3 y hy
   exact q6 y hy
  refine do_ hw v' ?_ (h v' w' (S.grown hM hb h3 hown hf) (fun e => ?_))
  simp only [execOp, resolve, invoke, builtin, Sem.run_bind, Sem.run_pure, Result.andThen_ok, List.map_toArray, List.map_cons, List.map_nil, hs, hx, hrun]
  obtain ⟨h6, h7⟩ := h4.1 e
  subst h6
  obtain ⟨_, ⟨_, h0⟩ | ⟨_, _, _, h0, _⟩⟩ := e1
  exact ⟨List.eq_nil_of_length_eq_zero h0, List.eq_nil_of_length_eq_zero h7⟩
  cases h0
theorem Own.form (h : Own k R E base w F v l) (hn : 0 < l.length) : ∃ g cap, v = .slice (some ⟨g, 0, none⟩) l.length cap ∧ l.length ≤ cap ∧ cap ≤ maxLen ∧ ∃ cur : Array Value, w.heap[g]? = some (.cells cur E (0, 0)) ∧ cur.size = cap * k := by
 obtain ⟨el, ⟨_, ⟨_, h0⟩ | ⟨g, cap, cur, rfl, _, hg, q1, q2, q3, q4⟩⟩, _⟩ := h.ex
 ·omega
 ·exact ⟨g, cap, rfl, q1, q2, cur, hg, q3⟩
theorem NV {xs : List (List Value)} {ps : List α} (h : AllR (R F) xs ps) {i : Nat} {x : List Value} {p : α} (hx : R F x p) : AllR (R F) (xs.set i x) (ps.set i p) := by
 refine AllR.of_get (by simp [h.len]) fun j h1 h2 => ?_
 rw [List.getElem_set, List.getElem_set]
 split
 exact hx
 exact h.get j (by simpa using h1) (by simpa using h2)
theorem zW {el : List (List Value)} (h3 : ∀ x ∈ el, x.length = k) {i : Nat} (hi : i < el.length) {x : List Value} (hx : x.length = k) : (el.set i x).flatten = cA el.flatten (i * k) x := by
 induction el generalizing i with
 | nil => simp at hi
 | cons y el ih =>
  have hy := h3 y (by simp)
  cases i with
  | zero =>
   unfold cA
   simp [hx]
   rw [List.drop_append, hy, Nat.sub_self, List.drop_of_length_le (by omega)]
   simp
  | succ i =>
   have ih' := ih (fun z hz => h3 z (by simp [hz])) (i := i) (by simpa using hi)
   simp only [List.set_cons_succ, List.flatten_cons]
   rw [ih']
   unfold cA
   rw [hx, Nat.add_mul, Nat.one_mul, List.take_append, List.drop_append, hy, show i * k + k - k = i * k from by omega, show i * k + k + k - k = i * k + k from by omega, List.take_of_length_le (show y.length ≤ i * k + k by omega), List.drop_of_length_le (show y.length ≤ i * k + k + k by omega)]
   simp
theorem CW {ops : Array Oper} {Q : Exit → Act → World → Prop} {a : Act} {rest : List Oper} {d : Option Tmp} {t T : TypeId} {x y : Operand} {pos : String} {after : Array Edge} {guard : Option (Nat × Bool)} {r g cap i o n : Nat} {u : Value} {p : α} (S : St w0 F0 w F L M)
    (hw : Region.wanted ⟨d, .store T x y, t, pos, after, guard⟩ (yielded ops a.tmps) = true) (hx : a.eval x = .pointer (some ⟨g, o, none⟩)) (ho : o = i * k) (hy : a.eval y = u) (hM : M[r]? = some (bZ k R hR E base (.slice (some ⟨g, 0, none⟩) n cap) l)) (hil : i < l.length)
    (hi : (P.info? T).map (·.size) = some u.cells.size) (h1 : u.cells.all (·.oneCell') = true) (hk : u.cells.size = k) (hp : R F u.cells.toList p) (hb : w0.heap.size ≤ base)
    (h : ∀ w', St w0 F0 w' F L (M.set r (bZ k R hR E base (.slice (some ⟨g, 0, none⟩) n cap) (l.set i p))) → WL P ops Q rest (a.put d undef) w') : WL P ops Q (⟨d, .store T x y, t, pos, after, guard⟩ :: rest) a w := by
 obtain ⟨el, ⟨e1, e2⟩, h2, h3⟩ := (S.own hM).ex
 have hll := h2.len
 subst ho
 rcases e2 with ⟨e2, _⟩ | ⟨g', cap', cur, e2, q0, hg, q1, q2, q3, q4⟩
 cases e2
 injection e2 with e2 e2n e2c
 injection e2 with e2
 injection e2 with e2
 subst e2; subst e2n; subst e2c
 have hcl : cur.toList.length = cap * k := by simpa using q3
 have hkl : (i + 1) * k ≤ cap * k := Nat.mul_le_mul_right k (by omega)
 have hle : i * k + u.cells.size ≤ cur.toList.length := by rw [hcl, hk]; rw [Nat.add_mul] at hkl; omega
 have ht : w.there g (i * k) u.cells.size := by
  intro j hj
  have : i * k + j < cur.size := by simp at hle; omega
  exact ⟨by simp [World.cell?, hg, this], by simp [World.frozen?, hg]⟩
 have hst := JP (P := P) (T := T) (v := u) hi ht h1
 have hm0 := (List.getElem?_eq_some_iff.1 hM)
 have hgrown : w.grownBy (w.setCells g (i * k) u.cells.toList) (Value.slice (some ⟨g, 0, none⟩) l.length cap).ownBlock := by
  have hb' := lF (B := 0) (Nat.zero_le g) u.cells.toList (i * k) w w (Below.refl 0 w)
  exact ⟨hb'.os, hb'.tape, hb'.output, hb'.size, fun b hb1 hb2 => gK _ _ _ (fun e => hb2 (by rw [e]; rfl))⟩
 have hheap := mG (n := g) (T := E) (fr := (0, 0)) u.cells.toList (i * k) w cur.toList (by simpa using hg) (by simpa using hle)
 have hown : Own k R E base (w.setCells g (i * k) u.cells.toList) F (.slice (some ⟨g, 0, none⟩) l.length cap) (l.set i p) := by
  refine ⟨⟨el.set i u.cells.toList, ⟨?_, .inr ⟨g, cap, _, by rw [List.length_set], q0, hheap, by rw [List.length_set]; exact q1, q2, ?_, ?_⟩⟩, NV h2 hp, fun y hy => ?_⟩, (S.own hM).out⟩
  rw [fO (fun y hy => ?_), List.length_set, List.length_set, hll]
  rcases List.mem_or_eq_of_mem_set hy with hy | rfl
  exact h3 y hy
  simpa using hk
  rw [List.size_toArray, cI (by simpa using hle), hcl]
  rw [List.length_set, zW h3 (by omega) (by simpa using hk), ← q4]
  unfold cA
  have hx' : u.cells.toList.length = k := by simpa using hk
  have hkk : i * k + k ≤ l.length * k := by have := Nat.mul_le_mul_right k (show i + 1 ≤ l.length by omega); rw [Nat.add_mul] at this; omega
  have hcl2 : cap * k ≤ cur.toList.length := by omega
  have hlk : l.length * k ≤ cap * k := Nat.mul_le_mul_right k q1
  apply List.ext_getElem?
  intro j
  simp only [List.getElem?_append, List.getElem?_take, List.getElem?_drop, List.length_take, List.length_append, hx']
  grind
  rcases List.mem_or_eq_of_mem_set hy with hy | rfl
  exact h3 y hy
  simpa using hk
 refine doS hw (wZ hx (by rw [hy]; exact hst)) (h _ (S.grown hM hb hgrown hown (fun g' hg' => .inl hg')))
end
section
variable {P : Program} {w0 w w' : World} {F0 F : Fz} {L : List Blk} {M : List RowP} {α : Type} {k base E : Nat} {R : Fz → List Value → α → Prop} {hR : ∀ F F' x p, Le F F' → R F x p → R F' x p} {v : Value} {l : List α}
theorem St.other (S : St w0 F0 w F L M) {r : Nat} {p : RowP} (hM : M[r]? = some p) : ∀ s ∈ M.eraseIdx r, ∀ g, p.ob = some g → s.ob ≠ some g := by
 obtain ⟨hi, he⟩ := List.getElem?_eq_some_iff.1 hM
 intro s hs g hg hc
 obtain ⟨k', hk, rfl⟩ := List.mem_iff_getElem.1 hs
 have hp := List.pairwise_iff_getElem.1 S.rr
 rw [List.length_eraseIdx, if_pos hi] at hk
 rw [List.getElem_eraseIdx] at hc
 split at hc
 ·rename_i hlt
  have := hp k' r (by omega) hi hlt g hc; rw [he] at this; exact this hg
 ·rename_i hge
  have := hp r (k' + 1) hi (by omega) (by omega) g (by rw [he]; exact hg); exact this hc
theorem St.rowBlk {r g n cap : Nat} (S : St w0 F0 w F L M) (hM : M[r]? = some (bZ k R hR E base (.slice (some ⟨g, 0, none⟩) n cap) l)) :
    ∃ c el, St w0 F0 w F (⟨g, c, E⟩ :: L) (M.eraseIdx r) ∧ n = l.length ∧ n ≤ cap ∧ cap ≤ maxLen ∧ c.length = cap * k ∧ c.take (n * k) = el.flatten ∧ AllR (R F) el l ∧ (∀ x ∈ el, x.length = k) ∧ base ≤ g := by
 have hown := S.own hM
 obtain ⟨hi, he⟩ := List.getElem?_eq_some_iff.1 hM
 have hm : bZ k R hR E base (.slice (some ⟨g, 0, none⟩) n cap) l ∈ M := by rw [← he]; exact List.getElem_mem hi
 obtain ⟨el, ⟨e1, e2⟩, h2, h3⟩ := hown.ex
 have hsub := List.eraseIdx_sublist M r
 have hr0 := (S.row _ hm).2 g rfl
 rcases e2 with ⟨e2, _⟩ | ⟨g', cap', cur, e2, q0, hg, q1, q2, q3, q4⟩
 cases e2
 injection e2 with e2 e2n e2c
 injection e2 with e2
 injection e2 with e2
 subst e2; subst e2n; subst e2c
 refine ⟨cur.toList, el, ⟨S.gr, fun x hx => ?_, fun s hs => S.row s (hsub.subset hs), ?_, fun s hs x hx => ?_, S.rr.sublist hsub⟩, rfl, q1, q2, by simpa using q3, q4, h2, h3, q0⟩
 rcases List.mem_cons.1 hx with rfl | hx
 exact ⟨by simpa using hg, hr0.2.1, hr0.2.2⟩
 exact S.blk x hx
 exact List.pairwise_cons.2 ⟨fun x hx e => S.rb _ hm x hx (congrArg some e), S.bb⟩
 rcases List.mem_cons.1 hx with rfl | hx
 exact S.other hM s hs g rfl
 exact S.rb s (hsub.subset hs) x hx
theorem St.blkRow {g cap : Nat} {c : List Value} (S : St w0 F0 w F (⟨g, c, E⟩ :: L) M) {el : List (List Value)} (hc : c.take (l.length * k) = el.flatten) (h2 : AllR (R F) el l) (h3 : ∀ x ∈ el, x.length = k) (h4 : c.length = cap * k) (h5 : l.length ≤ cap) (h6 : cap ≤ maxLen) (hb : base ≤ g) : St w0 F0 w F L (bZ k R hR E base (.slice (some ⟨g, 0, none⟩) l.length cap) l :: M) := by
 have hb0 := S.blk ⟨g, c, E⟩ (by simp)
 have hbb := List.pairwise_cons.1 S.bb
 refine ⟨S.gr, fun x hx => S.blk x (by simp [hx]), fun r hr => ?_, hbb.2, fun r hr x hx => ?_, List.pairwise_cons.2 ⟨fun s hs b hb' hc' => ?_, S.rr⟩⟩
 rcases List.mem_cons.1 hr with rfl | hr
 refine ⟨⟨⟨el, ⟨?_, .inr ⟨g, cap, c.toArray, rfl, hb, hb0.1, h5, h6, by simpa using h4, by simpa using hc⟩⟩, h2, h3⟩, fun b e => ?_⟩, fun b e => ?_⟩
 rw [fO h3, h2.len]
 cases e; exact hb0.2.1
 cases e; exact ⟨S.blk_lt (x := ⟨g, c, E⟩) (by simp), hb0.2⟩
 exact S.row r hr
 rcases List.mem_cons.1 hr with rfl | hr
 intro e; cases e; exact hbb.1 x hx rfl
 exact S.rb r hr x (by simp [hx])
 cases hb'; exact S.rb s hs ⟨g, c, E⟩ (by simp) hc'
theorem WD (w : World) (dT sT ty elem : TypeId) (b o dLen dCap k : Nat) (a : Addr) (sLen sCap m : Nat) (cs : List Value)
    (hu : P.underlying dT = some (.slice elem)) (hs : (P.info? elem).map (·.size) = some k) (hn : Nat.min sLen dLen = m) (hl : cs.length = m * k)
    (hsrc : ∀ j v, cs[j]? = some v → w.cell? (a.add j) = some v) (ht : w.there b o cs.length) (h1 : ∀ v ∈ cs, v.oneCell' = true) :
    (Builtin.copy_ #[dT, sT] ty #[.slice (some ⟨b, o, none⟩) dLen dCap, .slice (some a) sLen sCap]).run P w = .ok (.int .i64 (m : Int)) (w.setCells b o cs) := by
 have hf := run_firstCells_some (P := P) w k m a sLen sCap cs hl hsrc
 have hst := run_storeCells_cells (P := P) b o cs 0 w (fun j hj => by simpa using (ht j hj).1) (fun j hj => by simpa using (ht j hj).2) h1
 cases hq : P.info? elem with
 | none => simp [hq] at hs
 | some i =>
  have hi : i.size = k := by simpa [hq] using hs
  simp [Builtin.copy_, run_underlying hu, Builtin.lenOf, sizeOf, typeInfo, hq, hi, hn, hf, hst]
  rfl
theorem tM {ops : Array Oper} {Q : Exit → Act → World → Prop} {a : Act} {rest : List Oper} {d : Option Tmp} {t dT sT elem : TypeId} {x y : Operand} {pos : String} {after : Array Edge} {guard : Option (Nat × Bool)} {i g j dl dc sl sc : Nat} {T : TypeId} {c : List Value} {ad : Addr} (m : Nat) (cs : List Value) (S : St w0 F0 w F L M)
    (hw : Region.wanted ⟨d, .call ⟨.builtin .copy, #[x, y], #[dT, sT]⟩, t, pos, after, guard⟩ (yielded ops a.tmps) = true) (hu : P.underlying dT = some (.slice elem)) (hz : (P.info? elem).map (·.size) = some k)
    (hx : a.eval x = .slice (some ⟨g, j, none⟩) dl dc) (hy : a.eval y = .slice (some ad) sl sc) (hL : L[i]? = some ⟨g, c, T⟩) (hm : Nat.min sl dl = m) (hl : cs.length = m * k) (hfit : j + cs.length ≤ c.length)
    (hsrc : ∀ q u, cs[q]? = some u → w.cell? (ad.add q) = some u) (h1 : ∀ u ∈ cs, u.oneCell' = true)
    (h : ∀ w', St w0 F0 w' F (L.set i ⟨g, cA c j cs, T⟩) M → WL P ops Q rest (a.put d (.int .i64 (m : Int))) w') : WL P ops Q (⟨d, .call ⟨.builtin .copy, #[x, y], #[dT, sT]⟩, t, pos, after, guard⟩ :: rest) a w := by
 have hrun := WD (P := P) w dT sT t elem g j dl dc k ad sl sc m cs hu hz hm hl hsrc (S.there hL j cs.length hfit) h1
 refine do_ hw _ ?_ (h _ (S.store hL j cs hfit))
 simp only [execOp, resolve, invoke, builtin, Sem.run_bind, Sem.run_pure, Result.andThen_ok, List.map_toArray, List.map_cons, List.map_nil, hx, hy, hrun]
theorem RD (w : World) (t e ty : TypeId) (z : Value) (ht : P.underlying t = some (.slice e)) (hv : ∀ w, (zeroValue e).run P w = .ok z w) (b o n c : Nat) (zs : List Value) (hz : (Builtin.zeroCells z.cells n).toList = zs) (hn : 0 < n)
    (hth : w.there b o zs.length) (h1 : ∀ v ∈ zs, v.oneCell' = true) :
    (Builtin.clear_ #[t] ty #[.slice (some ⟨b, o, none⟩) n c]).run P w = .ok (.tuple #[]) (w.setCells b o zs) := by
 have hst := run_storeCells_cells (P := P) b o zs 0 w (fun j hj => by simpa using (hth j hj).1) (fun j hj => by simpa using (hth j hj).2) h1
 simp only [Nat.add_zero] at hst
 obtain ⟨m, rfl⟩ : ∃ m, n = m + 1 := ⟨n - 1, by omega⟩
 simp [Builtin.clear_, run_underlying ht, hv, hz, hst]
theorem TO {ops : Array Oper} {Q : Exit → Act → World → Prop} {a : Act} {rest : List Oper} {d : Option Tmp} {t sT elem : TypeId} {x : Operand} {pos : String} {after : Array Edge} {guard : Option (Nat × Bool)} {i g j n cp : Nat} {T : TypeId} {c : List Value} (z : Value) (zs : List Value) (S : St w0 F0 w F L M)
    (hw : Region.wanted ⟨d, .call ⟨.builtin .clear, #[x], #[sT]⟩, t, pos, after, guard⟩ (yielded ops a.tmps) = true) (hu : P.underlying sT = some (.slice elem)) (hv : ∀ w, (zeroValue elem).run P w = .ok z w) (hz : (Builtin.zeroCells z.cells n).toList = zs)
    (hx : a.eval x = .slice (some ⟨g, j, none⟩) n cp) (hn : 0 < n) (hL : L[i]? = some ⟨g, c, T⟩) (hfit : j + zs.length ≤ c.length) (h1 : ∀ u ∈ zs, u.oneCell' = true)
    (h : ∀ w', St w0 F0 w' F (L.set i ⟨g, cA c j zs, T⟩) M → WL P ops Q rest (a.put d (.tuple #[])) w') : WL P ops Q (⟨d, .call ⟨.builtin .clear, #[x], #[sT]⟩, t, pos, after, guard⟩ :: rest) a w := by
 have hrun := RD (P := P) w sT elem t z hu hv g j n cp zs hz hn (S.there hL j zs.length hfit) h1
 refine do_ hw _ ?_ (h _ (S.store hL j zs hfit))
 simp only [execOp, resolve, invoke, builtin, Sem.run_bind, Sem.run_pure, Result.andThen_ok, List.map_toArray, List.map_cons, List.map_nil, hx, hrun]
theorem ZC {ops : Array Oper} {Q : Exit → Act → World → Prop} {a : Act} {rest : List Oper} {d : Option Tmp} {t T E : TypeId} {x y : Operand} {pos : String} {after : Array Edge} {guard : Option (Nat × Bool)} {n m : Nat} (S : St w0 F0 w F L M)
    (hw : Region.wanted ⟨d, .makeSlice T x y, t, pos, after, guard⟩ (yielded ops a.tmps) = true) (inf : TypeInfo) (z : Value) (bytes : Nat) (ht : P.underlying T = some (.slice E)) (hi : P.info? E = some inf) (hz : inf.zero = some z) (hsize : inf.size = k) (hby : inf.bytes = bytes)
    (hx : a.eval x = .int .i64 (n : Int)) (hy : a.eval y = .int .i64 (m : Int)) (hnm : n ≤ m) (hb : bytes * m ≤ 281474976710656) (a0 : m ≤ 9223372036854775807)
    (h : ∀ g w', St w0 F0 w' F (⟨g, (madeCells z.cells (m * k)).toList, E⟩ :: L) M → WL P ops Q rest (a.put d (.slice (some ⟨g, 0, none⟩) n m)) w') : WL P ops Q (⟨d, .makeSlice T x y, t, pos, after, guard⟩ :: rest) a w := by
 subst hsize
 subst hby
 have hb' : (inf.bytes : Int) * (m : Int) ≤ 281474976710656 := by
  have h : ((inf.bytes * m : Nat) : Int) ≤ 281474976710656 := by omega
  rwa [Int.natCast_mul] at h
 have hrun := run_make (P := P) w T E inf z ht hi hz .i64 .i64 (n : Int) (m : Int) (by omega) (by omega) hb' (by omega)
 simp only [Int.toNat_natCast] at hrun
 refine do_ hw _ ?_ (h _ _ (S.alloc _ _))
 simp only [execOp, hx, hy, Sem.run_bind, hrun, Result.andThen_ok, Sem.run_pure]
theorem ZD {ops : Array Oper} {Q : Exit → Act → World → Prop} {a : Act} {rest : List Oper} {d : Option Tmp} {t T I E : TypeId} {x s : Operand} {pos : String} {after : Array Edge} {guard : Option (Nat × Bool)} {n m cap : Nat} {b : Addr} (nm : Nat) (olds : List Value) (S : St w0 F0 w F L M)
    (hw : Region.wanted ⟨d, .call ⟨.builtin .append, #[s, x], #[T, I]⟩, t, pos, after, guard⟩ (yielded ops a.tmps) = true)
    (inf : TypeInfo) (z : Value) (bytes : Nat) (ht : P.underlying T = some (.slice E)) (htI : P.underlying I = some (.int .i64)) (hi : P.info? E = some inf) (hz : inf.zero = some z) (hsize : inf.size = k) (hby : inf.bytes = bytes) (hzs : z.cells.size = k) (hk : 0 < k)
    (hs : a.eval s = .slice (some b) n cap) (hx : a.eval x = .int .i64 (m : Int)) (hm : 0 < m) (hlo : olds.length = n * k) (ho : ∀ q u, olds[q]? = some u → w.cell? (b.add q) = some u)
    (hnm : n + m = nm) (hgrow : cap < nm) (a0 : nm ≤ maxLen) (hbytes : nm * bytes ≤ 140737488355328)
    (h : ∀ g cap' news more w', nm ≤ cap' → cap' ≤ maxLen → news.length = m * k → (olds ++ news ++ more).length = cap' * k → St w0 F0 w' F (⟨g, olds ++ news ++ more, E⟩ :: L) M → WL P ops Q rest (a.put d (.slice (some ⟨g, 0, none⟩) nm cap')) w') : WL P ops Q (⟨d, .call ⟨.builtin .append, #[s, x], #[T, I]⟩, t, pos, after, guard⟩ :: rest) a w := by
 subst hnm
 subst hsize
 subst hby
 have hsmall : n + m ≤ 9223372036854775807 := by simp only [maxLen] at a0; omega
 have hold := run_firstCells_some (P := P) w.drew inf.size n b n cap olds hlo ho
 have hmb : m * inf.bytes ≤ 281474976710656 := by
  have := Nat.mul_le_mul_right inf.bytes (show m ≤ n + m by omega)
  omega
 have hrun := Lib.run_append_grow_zeros (P := P) w T I t E inf z .i64 .i64 ht htI hi hz (some b) n cap olds hold m hm hk hgrow (by omega) hmb (growslice_fits hgrow hbytes)
 have hge := grownCap_ge w (n + m) cap E
 have hcm : grownCap w (n + m) cap E ≤ maxLen := grownCap_le_maxLen w (n + m) cap E a0
 have S2 := (S.tells (show Below w.heap.size w w.drew from (Below.refl _ _).drew)).alloc (olds.toArray ++ Builtin.zeroCells z.cells m ++ Builtin.zeroCells z.cells (grownCap w (n + m) cap E - (n + m))) E
 have e : (olds.toArray ++ Builtin.zeroCells z.cells m ++ Builtin.zeroCells z.cells (grownCap w (n + m) cap E - (n + m))).toList = olds ++ (Builtin.zeroCells z.cells m).toList ++ (Builtin.zeroCells z.cells (grownCap w (n + m) cap E - (n + m))).toList := by simp
 rw [e] at S2
 have hnl : (Builtin.zeroCells z.cells m).toList.length = m * inf.size := by rw [Array.length_toList, size_zeroCells, hzs]
 refine do_ hw _ ?_ (h _ _ _ _ _ hge hcm hnl ?_ S2)
 simp only [execOp, resolve, invoke, builtin, Sem.run_bind, Sem.run_pure, Result.andThen_ok, List.map_toArray, List.map_cons, List.map_nil, hs, hx, hrun]
 rfl
 have hzl : (Builtin.zeroCells z.cells (grownCap w (n + m) cap E - (n + m))).toList.length = (grownCap w (n + m) cap E - (n + m)) * inf.size := by rw [Array.length_toList, size_zeroCells, hzs]
 rw [List.length_append, List.length_append, hlo, hnl, hzl, ← Nat.add_mul, ← Nat.add_mul]
 congr 1
 omega
theorem ZE {ops : Array Oper} {Q : Exit → Act → World → Prop} {a : Act} {rest : List Oper} {d : Option Tmp} {t T E : TypeId} {x s : Operand} {pos : String} {after : Array Edge} {guard : Option (Nat × Bool)} {i g n m cap cp : Nat} {ad : Addr} {c : List Value} {T' : TypeId} (nm : Nat) (news : List Value) (S : St w0 F0 w F L M)
    (hw : Region.wanted ⟨d, .call ⟨.builtin .append, #[s, x], #[T, T]⟩, t, pos, after, guard⟩ (yielded ops a.tmps) = true)
    (inf : TypeInfo) (ht : P.underlying T = some (.slice E)) (hi : P.info? E = some inf) (hsize : inf.size = k)
    (hs : a.eval s = .slice (some ⟨g, 0, none⟩) n cap) (hx : a.eval x = .slice (some ad) m cp) (hL : L[i]? = some ⟨g, c, T'⟩) (hln : news.length = m * k) (hn : ∀ q u, news[q]? = some u → w.cell? (ad.add q) = some u) (h1 : ∀ u ∈ news, u.oneCell' = true)
    (hnm : n + m = nm) (hroom : nm ≤ cap) (hfit : n * k + news.length ≤ c.length)
    (h : ∀ w', St w0 F0 w' F (L.set i ⟨g, cA c (n * k) news, T'⟩) M → WL P ops Q rest (a.put d (.slice (some ⟨g, 0, none⟩) nm cap)) w') : WL P ops Q (⟨d, .call ⟨.builtin .append, #[s, x], #[T, T]⟩, t, pos, after, guard⟩ :: rest) a w := by
 subst hnm
 subst hsize
 have ht0 := S.there hL (n * inf.size) news.length hfit
 have hrun := run_append_room_cells (P := P) w T t E inf ht hi g 0 n cap ad m cp news hln hn h1 hroom (fun j hj => by simpa using (ht0 j hj).1) (fun j hj => by simpa using (ht0 j hj).2)
 rw [Nat.zero_add] at hrun
 refine do_ hw _ ?_ (h _ (S.store hL (n * inf.size) news hfit))
 simp only [execOp, resolve, invoke, builtin, Sem.run_bind, Sem.run_pure, Result.andThen_ok, List.map_toArray, List.map_cons, List.map_nil, hs, hx, hrun]
end
theorem xC {P : Program} {w0 w : World} {F0 F : Fz} {ops : Array Oper} {Q : Exit → Act → World → Prop} {a : Act} {rest : List Oper} {o : Oper} {k : FuncId} {vs : Array Value} {L : List Blk} {M : Value → List RowP} (hw : Region.wanted o (yielded ops a.tmps) = true)
    (hr : (execOp a.eval o).run P w = .ok (.enter k vs) w) (hc : Calls P k vs w fun e w' => ∃ v, e = .returned v ∧ St w0 F0 w' F L (M v))
    (h : ∀ v w', St w0 F0 w' F L (M v) → WL P ops Q rest (a.put o.dst v) w') : WL P ops Q (o :: rest) a w :=
  doC hw hr hc fun e w' ⟨v, he, hS⟩ => ⟨v, he, h v w' hS⟩
section
variable {k i n : Nat} {c zs vs : List Value} {el : List (List Value)}
theorem Dw (A B K : Nat) (hA : A ≤ B) (hc : B + K ≤ c.length) (hv : vs.length = K) :
    (cA (cA c (A + K) ((c.drop A).take (B - A))) A vs).take (B + K) = (c.take B).take A ++ (vs ++ (c.take B).drop A) := by
 unfold cA
 apply List.ext_getElem?
 intro j
 simp only [List.getElem?_append, List.getElem?_take, List.getElem?_drop, List.length_take, List.length_drop, List.length_append, hv]
 grind
theorem ZF (A B K : Nat) (hA : A ≤ B) {x : List Value} (hB : B ≤ c.length) (hx : x.length = B + K - A) {more : List Value} (hv : vs.length = K) :
    (cA (cA (c.take A ++ x ++ more) A vs) (A + K) ((c.drop A).take (B - A))).take (B + K) = (c.take B).take A ++ (vs ++ (c.take B).drop A) := by
 unfold cA
 apply List.ext_getElem?
 intro j
 simp only [List.getElem?_append, List.getElem?_take, List.getElem?_drop, List.length_take, List.length_drop, List.length_append, hv, hx]
 grind
theorem Dx (A B K : Nat) (hA : A + K ≤ B) (hc : B ≤ c.length) (hz : zs.length = K) :
    (cA (cA c A ((c.drop (A + K)).take (B - (A + K)))) (B - K) zs).take (B - K) = (c.take B).take A ++ (c.take B).drop (A + K) := by
 unfold cA
 apply List.ext_getElem?
 intro j
 simp only [List.getElem?_append, List.getElem?_take, List.getElem?_drop, List.length_take, List.length_drop, List.length_append, hz]
 grind
variable (h3 : ∀ x ∈ el, x.length = k) (hc : c.take (n * k) = el.flatten)
include h3 hc
theorem HZ (hi : i ≤ n) (hl : (n + 1) * k ≤ c.length) (hv : vs.length = k) :
    (cA (cA c ((i + 1) * k) ((c.drop (i * k)).take ((n - i) * k))) (i * k) vs).take ((n + 1) * k) = (el.take i ++ vs :: el.drop i).flatten := by
 have hA : i * k ≤ n * k := Nat.mul_le_mul_right k hi
 have := Dw (c := c) (vs := vs) (i * k) (n * k) k hA (by rw [Nat.add_mul, Nat.one_mul] at hl; exact hl) hv
 rw [Nat.add_mul, Nat.one_mul, Nat.sub_mul, Nat.add_mul, Nat.one_mul, this, hc, List.flatten_append, List.flatten_cons, nN h3, nP h3]
theorem CX (hi : i ≤ n) (hl : n * k ≤ c.length) {x more : List Value} (hx : x.length = (n + 1 - i) * k) (hv : vs.length = k) :
    (cA (cA (c.take (i * k) ++ x ++ more) (i * k) vs) ((i + 1) * k) ((c.drop (i * k)).take ((n - i) * k))).take ((n + 1) * k) = (el.take i ++ vs :: el.drop i).flatten := by
 have hA : i * k ≤ n * k := Nat.mul_le_mul_right k hi
 have := ZF (c := c) (vs := vs) (x := x) (more := more) (i * k) (n * k) k hA hl (by rw [hx, Nat.sub_mul, Nat.add_mul, Nat.one_mul]) hv
 rw [Nat.add_mul, Nat.one_mul, Nat.sub_mul, Nat.add_mul, Nat.one_mul, this, hc, List.flatten_append, List.flatten_cons, nN h3, nP h3]
theorem IA (hi : i < n) (hl : n * k ≤ c.length) (hz : zs.length = k) :
    (cA (cA c (i * k) ((c.drop ((i + 1) * k)).take ((n - (i + 1)) * k))) ((n - 1) * k) zs).take ((n - 1) * k) = (el.take i ++ el.drop (i + 1)).flatten := by
 have hA : (i + 1) * k ≤ n * k := Nat.mul_le_mul_right k hi
 rw [Nat.add_mul, Nat.one_mul] at hA
 have := Dx (c := c) (zs := zs) (i * k) (n * k) k hA hl hz
 rw [Nat.add_mul, Nat.one_mul, Nat.sub_mul, Nat.sub_mul, Nat.add_mul, Nat.one_mul, this, hc, List.flatten_append, nN h3, nP h3, Nat.add_mul, Nat.one_mul]
end
theorem St.src {w0 w : World} {F0 F : Fz} {L : List Blk} {M : List RowP} (S : St w0 F0 w F L M) {i n : Nat} {c : List Value} {T : TypeId} (hL : L[i]? = some ⟨n, c, T⟩) (j m : Nat) : ∀ q u, ((c.drop j).take m)[q]? = some u → w.cell? ((⟨n, j, none⟩ : Addr).add q) = some u := by
 intro q u hu
 rw [Addr.add_mid]
 rw [List.getElem?_take] at hu
 split at hu
 ·rw [List.getElem?_drop] at hu
  exact S.cell hL hu
 ·cases hu
theorem St.src0 {w0 w : World} {F0 F : Fz} {L : List Blk} {M : List RowP} (S : St w0 F0 w F L M) {i n : Nat} {c : List Value} {T : TypeId} (hL : L[i]? = some ⟨n, c, T⟩) : ∀ q u, c[q]? = some u → w.cell? ((⟨n, 0, none⟩ : Addr).add q) = some u := by
 intro q u hu
 rw [Addr.add_mid, Nat.zero_add]
 exact S.cell hL hu
theorem St.srcT {w0 w : World} {F0 F : Fz} {L : List Blk} {M : List RowP} (S : St w0 F0 w F L M) {i n : Nat} {c : List Value} {T : TypeId} (hL : L[i]? = some ⟨n, c, T⟩) (m : Nat) : ∀ q u, (c.take m)[q]? = some u → w.cell? ((⟨n, 0, none⟩ : Addr).add q) = some u := by
 intro q u hu
 rw [Addr.add_mid, Nat.zero_add]
 rw [List.getElem?_take] at hu
 split at hu
 ·exact S.cell hL hu
 ·cases hu
theorem uQ {α : Type} {R : Fz → List Value → α → Prop} {F : Fz} {k : Nat} {c : List Value} {el : List (List Value)} {l : List α} (hone : ∀ F cs p, R F cs p → ∀ u ∈ cs, u.oneCell' = true) (hall : AllR (R F) el l) (hc : c.take (l.length * k) = el.flatten) (i : Nat) : ∀ u ∈ (c.drop (i * k)).take ((l.length - i) * k), u.oneCell' = true := by
 intro u hu
 have e : (c.drop (i * k)).take ((l.length - i) * k) = el.flatten.drop (i * k) := by
  rw [← hc, List.drop_take, Nat.sub_mul]
 rw [e] at hu
 obtain ⟨y, hy, huy⟩ := List.mem_flatten.1 (List.mem_of_mem_drop hu)
 obtain ⟨j, hj, rfl⟩ := List.mem_iff_getElem.1 hy
 exact hone _ _ _ (hall.get j hj (by rw [← hall.len]; exact hj)) u huy
theorem pJ {α : Type} {R : List Value → α → Prop} {xs : List (List Value)} {ps : List α} (h : AllR R xs ps) (i : Nat) {x : List Value} {p : α} (hx : R x p) : AllR R (xs.take i ++ x :: xs.drop i) (ps.take i ++ p :: ps.drop i) := (h.take i).append ⟨hx, h.drop i⟩
theorem zX {α : Type} {R : List Value → α → Prop} {xs : List (List Value)} {ps : List α} (h : AllR R xs ps) (i : Nat) : AllR R (xs.take i ++ xs.drop (i + 1)) (ps.take i ++ ps.drop (i + 1)) := (h.take i).append (h.drop (i + 1))
theorem rW {el : List (List Value)} {k : Nat} (h : ∀ x ∈ el, x.length = k) (i : Nat) {x : List Value} (hx : x.length = k) : ∀ y ∈ el.take i ++ x :: el.drop i, y.length = k := by
 intro y hy
 rcases List.mem_append.1 hy with hy | hy
 ·exact h y (List.mem_of_mem_take hy)
 ·rcases List.mem_cons.1 hy with rfl | hy
  ·exact hx
  ·exact h y (List.mem_of_mem_drop hy)
theorem CY {el : List (List Value)} {k : Nat} (h : ∀ x ∈ el, x.length = k) (i : Nat) : ∀ y ∈ el.take i ++ el.drop (i + 1), y.length = k := by
 intro y hy
 rcases List.mem_append.1 hy with hy | hy
 ·exact h y (List.mem_of_mem_take hy)
 ·exact h y (List.mem_of_mem_drop hy)
section
variable {P : Program} {ρ : Operand → Value} {w : World} {d : Option Tmp} {t X Y : TypeId} {pos : String} {after : Array Edge} {guard : Option (Nat × Bool)} {x y : Operand} {l m : List UInt8}
def Hu (op : BinOp) (l m : List UInt8) : Bool := match op with | .lss => Op.bytesLess l m | .leq => Op.bytesLess l m || l == m | .gtr => !(Op.bytesLess l m || l == m) | .geq => !Op.bytesLess l m | .eql => l == m | _ => !(l == m)
theorem NW {op : BinOp} {b : Bool} (hop : op = .lss ∨ op = .leq ∨ op = .gtr ∨ op = .geq ∨ op = .eql ∨ op = .neq) (hx : ρ x = .string ⟨l.toArray⟩) (hy : ρ y = .string ⟨m.toArray⟩)
    (h : Hu op l m = b) :
    (execOp ρ ⟨d, .binOp op X x y Y, t, pos, after, guard⟩).run P w = .ok (.value (.bool b)) w := by
 subst h
 have e : (eqGuard op X x y (.string ⟨l.toArray⟩) (.string ⟨m.toArray⟩)).run P w = .ok () w := by
  unfold eqGuard
  rcases hop with rfl | rfl | rfl | rfl | rfl | rfl <;> rfl
 have e2 : (binOp op X (.string ⟨l.toArray⟩) (.string ⟨m.toArray⟩)).run P w = .ok (.bool (Hu op l m)) w := by
  rcases hop with rfl | rfl | rfl | rfl | rfl | rfl <;> simp [binOp, Op.stringOp, Hu]
 simp only [execOp, hx, hy, Sem.run_bind, e, Result.andThen_ok, e2, Sem.run_pure]
theorem bB {v r : Value} (hx : ρ x = v) (h : (convert X Y v).run P w = .ok r w) : (execOp ρ ⟨d, .convert X Y x, t, pos, after, guard⟩).run P w = .ok (.value r) w := by
 subst hx
 simp only [execOp, Sem.run_bind, h, Result.andThen_ok, Sem.run_pure]
end
section
variable {P : Program} {ρ : Operand → Value} {w : World} {d : Option Tmp} {t X T : TypeId} {pos : String} {after : Array Edge} {guard : Option (Nat × Bool)} {x y : Operand} {k : IntKind} {m n r : Int}
theorem ZG {E : TypeId} {A : Option Addr} {l c : Nat} (hT : P.underlying T = some (.slice E)) (h : ρ x = .slice A l c) : (execOp ρ ⟨d, .call ⟨.builtin .cap, #[x], #[T]⟩, t, pos, after, guard⟩).run P w = .ok (.value (.int .i64 c)) w := by
 simp [execOp, resolve, invoke, builtin, Builtin.cap_, h, run_underlying hT w]; rfl
theorem ZH {U : TypeId} (hx : ρ x = .int k m) (hy : ρ y = .int k n) (e : (if m < n then n else m) = r) : (execOp ρ ⟨d, .call ⟨.builtin .max, #[x, y], #[T, U]⟩, t, pos, after, guard⟩).run P w = .ok (.value (.int k r)) w := by
 subst e
 simp [execOp, resolve, invoke, builtin, Builtin.max_, Builtin.max2, hx, hy]
theorem IB {E : TypeId} {A : Option Addr} {n c : Nat} {lo hi mx : Operand} {l h m : Nat} {sz : Nat} {v : Value} (hX : P.underlying X = some (.slice E)) (hx : ρ x = .slice A n c) (hsz : (sizeOf E).run P w = .ok sz w)
    (hl : ρ lo = .int .i64 l) (hh : ρ hi = .int .i64 h) (hm : ρ mx = .int .i64 m) (h1 : l ≤ h) (h2 : h ≤ m) (h3 : m ≤ c)
    (hv : v = .slice (if m = l then A else A.map (·.add (l * sz))) (h - l) (m - l)) : (execOp ρ ⟨d, .slice X x (some lo) (some hi) (some mx), t, pos, after, guard⟩).run P w = .ok (.value v) w := by
 subst hv
 have b1 : ∀ (z y : Nat) (code : BoundsCode), z ≤ y → (Instr.sliceBound (.int .i64 z) y code).run P w = .ok z w := by
  intro z y code hzy
  have : (0 : Int) ≤ (z : Int) ∧ (z : Int) ≤ (y : Int) := by omega
  simp [Instr.sliceBound, asIntOf, this]
 have hb : (Instr.sliceBounds true n c (some (ρ lo)) (some (ρ hi)) (some (ρ mx))).run P w = .ok (l, h, m) w := by
  simp [Instr.sliceBounds, hl, hh, hm, b1 _ _ _ h1, b1 _ _ _ h2, b1 _ _ _ h3]
 have hs : (Instr.sliceAt X (.slice A n c) (some (ρ lo)) (some (ρ hi)) (some (ρ mx))).run P w = .ok (.slice (if m = l then A else A.map (·.add (l * sz))) (h - l) (m - l)) w := by
  simp [Instr.sliceAt, Sem.run_bind, run_underlying hX w, Instr.slice, hb, hsz]
 simp [execOp, hx, hs]
end
theorem gE {F : Fz} {n : Nat} {c : List Value} {l : List UInt8} (h : ∀ j v, c[j]? = some v → bM F n j = some v) (e : c = l.map bv) (hl : l.length ≤ maxLen) : Bs F (.slice (some ⟨n, 0, none⟩) l.length l.length) l := by
 subst e
 exact Rw.of_cells (Nat.le_refl _) hl fun j u hu => by rw [Nat.zero_add]; exact h j u hu
theorem gF {α : Type} {k : Nat} {R : Fz → List Value → α → Prop} {F : Fz} {n : Nat} {c : List Value} {el : List (List Value)} {l : List α} (h : ∀ j v, c[j]? = some v → bM F n j = some v) (e : c = el.flatten) (hR : AllR (R F) el l) (hk : ∀ x ∈ el, x.length = k) (hl : l.length ≤ maxLen) : Sl k R F (.slice (some ⟨n, 0, none⟩) l.length l.length) l := by
 subst e
 exact ⟨el, Rw.of_cells (Nat.le_refl _) hl fun j u hu => by rw [Nat.zero_add]; exact h j u hu, hR, hk⟩
set_option maxRecDepth 100000
def EN (k : FuncId) : Prop := ∀ (vs : Array Value) (w : World), (callFunc k vs).run Tryz.prog w = .ok (.enter k vs) w
abbrev SZ (t : TypeId) (n : Nat) : Prop := (Tryz.prog.info? t).map (·.size) = some n
def ZR (t : TypeId) (v : Value) : Prop := ∀ w : World, (zeroValue t).run Tryz.prog w = .ok v w
def NG (t : TypeId) : Prop := ∀ w : World, (isAgg t).run Tryz.prog w = .ok false w
def SO (t : TypeId) (n : Nat) : Prop := ∀ w : World, (sizeOf t).run Tryz.prog w = .ok n w
def FZ (t : TypeId) (f : Nat) : Prop := ∀ (b o : Nat) (w : World), (Instr.fieldAt t (.pointer (some ⟨b, o, none⟩)) f).run Tryz.prog w = .ok (.pointer (some ⟨b, o, none⟩)) w
def FO (t : TypeId) (f n : Nat) : Prop := ∀ (b o : Nat) (w : World), (Instr.fieldAt t (.pointer (some ⟨b, o, none⟩)) f).run Tryz.prog w = .ok (.pointer (some ⟨b, o + n, none⟩)) w
abbrev IFO (t : TypeId) (z : Value) (n m : Nat) : Prop := (Tryz.prog.info? t).map (fun i => (i.zero, i.size, i.bytes)) = some (some z, n, m)
theorem bN : NG 3 := fun _ => by kernel_rfl
theorem rX : SZ 3 1 := (by kernel_rfl : _ = _)
theorem Hv : ZR 3 (.int .i64 0) := fun _ => by kernel_rfl
theorem eA : SO 3 1 := fun _ => by kernel_rfl
theorem iE : NG 4 := fun _ => by kernel_rfl
theorem JT : SZ 4 1 := (by kernel_rfl : _ = _)
theorem lH : NG 5 := fun _ => by kernel_rfl
theorem ZI : SZ 5 1 := (by kernel_rfl : _ = _)
theorem dO : SO 5 1 := fun _ => by kernel_rfl
theorem Dy : NG 22 := fun _ => by kernel_rfl
theorem Dz : NG 23 := fun _ => by kernel_rfl
theorem uR : NG 24 := fun _ => by kernel_rfl
theorem qT : SO 24 1 := fun _ => by kernel_rfl
theorem bI : NG 25 := fun _ => by kernel_rfl
theorem mH : SZ 25 1 := (by kernel_rfl : _ = _)
theorem iR : SO 25 1 := fun _ => by kernel_rfl
theorem Ea : NG 35 := fun _ => by kernel_rfl
theorem xD : NG 40 := fun _ => by kernel_rfl
theorem Eb : SZ 40 1 := (by kernel_rfl : _ = _)
theorem BB : NG 41 := fun _ => by kernel_rfl
theorem TP : SZ 41 1 := (by kernel_rfl : _ = _)
theorem BC : NG 47 := fun _ => by kernel_rfl
theorem JU : SZ 47 1 := (by kernel_rfl : _ = _)
theorem Ec : NG 48 := fun _ => by kernel_rfl
theorem TQ : SZ 48 1 := (by kernel_rfl : _ = _)
theorem JV : NG 60 := fun _ => by kernel_rfl
theorem JW : SZ 60 1 := (by kernel_rfl : _ = _)
theorem Ed : NG 61 := fun _ => by kernel_rfl
theorem ZJ : NG 105 := fun _ => by kernel_rfl
theorem qU : NG 106 := fun _ => by kernel_rfl
theorem NX : SZ 106 1 := (by kernel_rfl : _ = _)
theorem kG : NG 109 := fun _ => by kernel_rfl
theorem NY : SZ 109 1 := (by kernel_rfl : _ = _)
theorem eM : NG 110 := fun _ => by kernel_rfl
theorem oL : SZ 110 1 := (by kernel_rfl : _ = _)
theorem ZK : NG 137 := fun _ => by kernel_rfl
theorem CZ : NG 139 := fun _ => by kernel_rfl
theorem NZ : SZ 139 1 := (by kernel_rfl : _ = _)
theorem dL : SZ 50 2 := (by kernel_rfl : _ = _)
theorem uS : ZR 50 (.agg #[.slice none 0 0, .slice none 0 0]) := fun _ => by kernel_rfl
theorem bL : SO 50 2 := fun _ => by kernel_rfl
theorem nQ : IFO 50 (.agg #[.slice none 0 0, .slice none 0 0]) 2 48 := (by kernel_rfl : _ = _)
theorem nR : FZ 50 0 := fun _ _ _ => by go_simp
theorem xE : FO 50 1 1 := fun _ _ _ => by go_simp
theorem jL : SZ 66 2 := (by kernel_rfl : _ = _)
theorem xF : ZR 66 (.agg #[.slice none 0 0, .slice none 0 0]) := fun _ => by kernel_rfl
theorem cX : SO 66 2 := fun _ => by kernel_rfl
theorem uT : IFO 66 (.agg #[.slice none 0 0, .slice none 0 0]) 2 48 := (by kernel_rfl : _ = _)
theorem JX : FZ 66 0 := fun _ _ _ => by go_simp
theorem rY : FO 66 1 1 := fun _ _ _ => by go_simp
theorem fT : SZ 72 2 := (by kernel_rfl : _ = _)
theorem kL : ZR 72 (.agg #[.bool false, .slice none 0 0]) := fun _ => by kernel_rfl
theorem rZ : FZ 72 0 := fun _ _ _ => by go_simp
theorem sB : FO 72 1 1 := fun _ _ _ => by go_simp
theorem cD : SZ 39 4 := (by kernel_rfl : _ = _)
theorem mI : ZR 39 (.agg #[.slice none 0 0, .slice none 0 0, .bool false, .slice none 0 0]) := fun _ => by kernel_rfl
theorem fJ : SO 39 4 := fun _ => by kernel_rfl
theorem TR : IFO 39 (.agg #[.slice none 0 0, .slice none 0 0, .bool false, .slice none 0 0]) 4 80 := (by kernel_rfl : _ = _)
theorem JY : FZ 39 0 := fun _ _ _ => by go_simp
theorem JZ : FO 39 1 1 := fun _ _ _ => by go_simp
theorem BD : FO 39 2 2 := fun _ _ _ => by go_simp
theorem KA : FO 39 3 3 := fun _ _ _ => by go_simp
theorem dI : SZ 179 4 := (by kernel_rfl : _ = _)
theorem tN : ZR 179 (.agg #[.slice none 0 0, .slice none 0 0, .bool false, .slice none 0 0]) := fun _ => by kernel_rfl
theorem jP : SO 179 4 := fun _ => by kernel_rfl
theorem OA : IFO 179 (.agg #[.slice none 0 0, .slice none 0 0, .bool false, .slice none 0 0]) 4 80 := (by kernel_rfl : _ = _)
theorem DA : FZ 179 0 := fun _ _ _ => by go_simp
theorem DB : FO 179 1 1 := fun _ _ _ => by go_simp
theorem DC : FO 179 2 2 := fun _ _ _ => by go_simp
theorem xG : FO 179 3 3 := fun _ _ _ => by go_simp
theorem oM : SZ 168 2 := (by kernel_rfl : _ = _)
theorem OB : ZR 168 (.agg #[.int .i64 0, .slice none 0 0]) := fun _ => by kernel_rfl
theorem RE : SO 168 2 := fun _ => by kernel_rfl
theorem ZL : IFO 168 (.agg #[.int .i64 0, .slice none 0 0]) 2 32 := (by kernel_rfl : _ = _)
theorem ZM : FZ 168 0 := fun _ _ _ => by go_simp
theorem DD : FO 168 1 1 := fun _ _ _ => by go_simp
theorem DE : SZ 204 3 := (by kernel_rfl : _ = _)
theorem ZN : ZR 204 (.agg #[.int .i64 0, .bool false, .slice none 0 0]) := fun _ => by kernel_rfl
theorem OC : IFO 204 (.agg #[.int .i64 0, .bool false, .slice none 0 0]) 3 40 := (by kernel_rfl : _ = _)
theorem ZO : FZ 204 0 := fun _ _ _ => by go_simp
theorem ZP : FO 204 1 1 := fun _ _ _ => by go_simp
theorem ZQ : FO 204 2 2 := fun _ _ _ => by go_simp
theorem aZ : SZ 141 3 := (by kernel_rfl : _ = _)
theorem gM : ZR 141 (.agg #[.int .i64 0, .slice none 0 0, .slice none 0 0]) := fun _ => by kernel_rfl
theorem lI : FZ 141 0 := fun _ _ _ => by go_simp
theorem tO : FO 141 1 1 := fun _ _ _ => by go_simp
theorem xH : FO 141 2 2 := fun _ _ _ => by go_simp
theorem fH : SZ 108 2 := (by kernel_rfl : _ = _)
theorem qV : ZR 108 (.agg #[.slice none 0 0, .int .i64 0]) := fun _ => by kernel_rfl
theorem DF : FZ 108 0 := fun _ _ _ => by go_simp
theorem OD : FO 108 1 1 := fun _ _ _ => by go_simp
theorem pK : SZ 33 4 := (by kernel_rfl : _ = _)
theorem KB : ZR 33 (.agg #[.int .i64 0, .int .i64 0, .int .i64 0, .slice none 0 0]) := fun _ => by kernel_rfl
theorem IC : SO 33 4 := fun _ => by kernel_rfl
theorem KC : IFO 33 (.agg #[.int .i64 0, .int .i64 0, .int .i64 0, .slice none 0 0]) 4 48 := (by kernel_rfl : _ = _)
theorem Ee : FZ 33 0 := fun _ _ _ => by go_simp
theorem Ef : FO 33 1 1 := fun _ _ _ => by go_simp
theorem Eg : FO 33 2 2 := fun _ _ _ => by go_simp
theorem Eh : FO 33 3 3 := fun _ _ _ => by go_simp
theorem aY : SZ 27 5 := (by kernel_rfl : _ = _)
theorem uU : ZR 27 (.agg #[.int .i64 0, .slice none 0 0, .slice none 0 0, .slice none 0 0, .slice none 0 0]) := fun _ => by kernel_rfl
theorem yY : SO 27 5 := fun _ => by kernel_rfl
theorem Ei : IFO 27 (.agg #[.int .i64 0, .slice none 0 0, .slice none 0 0, .slice none 0 0, .slice none 0 0]) 5 104 := (by kernel_rfl : _ = _)
theorem lJ : FZ 27 0 := fun _ _ _ => by go_simp
theorem xI : FO 27 1 1 := fun _ _ _ => by go_simp
theorem xJ : FO 27 2 2 := fun _ _ _ => by go_simp
theorem KD : FO 27 3 3 := fun _ _ _ => by go_simp
theorem TS : FO 27 4 4 := fun _ _ _ => by go_simp
theorem eG : SZ 52 4 := (by kernel_rfl : _ = _)
theorem sC : ZR 52 (.agg #[.bool false, .slice none 0 0, .slice none 0 0, .slice none 0 0]) := fun _ => by kernel_rfl
theorem Ej : FZ 52 0 := fun _ _ _ => by go_simp
theorem KE : FO 52 1 1 := fun _ _ _ => by go_simp
theorem TT : FO 52 2 2 := fun _ _ _ => by go_simp
theorem ZS : FZ 195 0 := fun _ _ _ => by go_simp
theorem ZT : FO 195 1 1 := fun _ _ _ => by go_simp
theorem pL : SZ 54 15 := (by kernel_rfl : _ = _)
theorem BE : ZR 54 (.agg #[.int .i64 0, .int .i64 0, .int .i64 0, .bool false, .slice none 0 0, .slice none 0 0, .slice none 0 0, .bool false, .slice none 0 0, .slice none 0 0, .slice none 0 0, .bool false, .slice none 0 0, .slice none 0 0, .slice none 0 0]) := fun _ => by kernel_rfl
theorem ID : SO 54 15 := fun _ => by kernel_rfl
theorem Ek : IFO 54 (.agg #[.int .i64 0, .int .i64 0, .int .i64 0, .bool false, .slice none 0 0, .slice none 0 0, .slice none 0 0, .bool false, .slice none 0 0, .slice none 0 0, .slice none 0 0, .bool false, .slice none 0 0, .slice none 0 0, .slice none 0 0]) 15 264 := (by kernel_rfl : _ = _)
theorem El : FZ 54 0 := fun _ _ _ => by go_simp
theorem Em : FO 54 1 1 := fun _ _ _ => by go_simp
theorem En : FO 54 2 2 := fun _ _ _ => by go_simp
theorem Eo : FO 54 3 3 := fun _ _ _ => by go_simp
theorem Ep : FO 54 4 4 := fun _ _ _ => by go_simp
theorem Es : FO 54 5 5 := fun _ _ _ => by go_simp
theorem Et : FO 54 6 6 := fun _ _ _ => by go_simp
theorem Eu : FO 54 7 7 := fun _ _ _ => by go_simp
theorem Ev : FO 54 8 11 := fun _ _ _ => by go_simp
theorem DG : SO 112 2 := fun _ => by kernel_rfl
theorem eJ : FZ 112 0 := fun _ _ _ => by go_simp
theorem oN : FO 112 1 1 := fun _ _ _ => by go_simp
theorem xK : FZ 115 0 := fun _ _ _ => by go_simp
theorem xL : FO 115 1 1 := fun _ _ _ => by go_simp
theorem jQ : FO 115 2 3 := fun _ _ _ => by go_simp
theorem qW : FO 115 3 4 := fun _ _ _ => by go_simp
theorem gZ : FO 115 4 5 := fun _ _ _ => by go_simp
theorem DH : FO 115 5 6 := fun _ _ _ => by go_simp
theorem xM : FO 115 6 22 := fun _ _ _ => by go_simp
theorem tP : FO 115 7 23 := fun _ _ _ => by go_simp
theorem mJ : SZ 43 5 := (by kernel_rfl : _ = _)
theorem sD : ZR 43 (.agg #[.bool false, .int .i64 0, .int .i64 0, .slice none 0 0, .slice none 0 0]) := fun _ => by kernel_rfl
theorem TU : FZ 43 0 := fun _ _ _ => by go_simp
theorem TV : FO 43 1 1 := fun _ _ _ => by go_simp
theorem Ex : FO 43 2 2 := fun _ _ _ => by go_simp
theorem Ey : FO 43 3 3 := fun _ _ _ => by go_simp
theorem Ez : FO 43 4 4 := fun _ _ _ => by go_simp
theorem yZ : SO 31 5 := fun _ => by kernel_rfl
theorem TW : FZ 31 0 := fun _ _ _ => by go_simp
theorem Fa : FO 31 1 1 := fun _ _ _ => by go_simp
theorem KF : FO 31 2 2 := fun _ _ _ => by go_simp
theorem KG : FO 31 3 3 := fun _ _ _ => by go_simp
theorem BF : FO 31 4 4 := fun _ _ _ => by go_simp
theorem BG : EN 100 := fun _ _ => by kernel_rfl
theorem TX : EN 101 := fun _ _ => by kernel_rfl
theorem TY : EN 102 := fun _ _ => by kernel_rfl
theorem TZ : EN 103 := fun _ _ => by kernel_rfl
theorem KH : EN 104 := fun _ _ => by kernel_rfl
theorem Fb : EN 105 := fun _ _ => by kernel_rfl
theorem BH : EN 106 := fun _ _ => by kernel_rfl
theorem Fc : EN 107 := fun _ _ => by kernel_rfl
theorem jM : EN 108 := fun _ _ => by kernel_rfl
theorem UA : EN 109 := fun _ _ => by kernel_rfl
theorem Fd : EN 110 := fun _ _ => by kernel_rfl
theorem BI : EN 111 := fun _ _ => by kernel_rfl
theorem UB : EN 112 := fun _ _ => by kernel_rfl
theorem UC : EN 113 := fun _ _ => by kernel_rfl
theorem UD : EN 114 := fun _ _ => by kernel_rfl
theorem UE : EN 115 := fun _ _ => by kernel_rfl
theorem Fe : EN 116 := fun _ _ => by kernel_rfl
theorem UF : EN 117 := fun _ _ => by kernel_rfl
theorem Ff : EN 120 := fun _ _ => by kernel_rfl
theorem KI : EN 121 := fun _ _ => by kernel_rfl
theorem KJ : EN 122 := fun _ _ => by kernel_rfl
theorem Fg : EN 123 := fun _ _ => by kernel_rfl
theorem KK : EN 124 := fun _ _ => by kernel_rfl
theorem Fh : EN 125 := fun _ _ => by kernel_rfl
theorem UG : EN 126 := fun _ _ => by kernel_rfl
theorem KL : EN 127 := fun _ _ => by kernel_rfl
theorem Fi : EN 128 := fun _ _ => by kernel_rfl
theorem UH : EN 129 := fun _ _ => by kernel_rfl
theorem UI : EN 130 := fun _ _ => by kernel_rfl
theorem Fj : EN 131 := fun _ _ => by kernel_rfl
theorem Fk : EN 132 := fun _ _ => by kernel_rfl
theorem Fl : EN 133 := fun _ _ => by kernel_rfl
theorem Fm : EN 134 := fun _ _ => by kernel_rfl
theorem Fn : EN 135 := fun _ _ => by kernel_rfl
theorem Fp : EN 136 := fun _ _ => by kernel_rfl
theorem Fq : EN 137 := fun _ _ => by kernel_rfl
theorem Fr : EN 138 := fun _ _ => by kernel_rfl
theorem Fs : EN 139 := fun _ _ => by kernel_rfl
theorem Fu : EN 140 := fun _ _ => by kernel_rfl
theorem Fv : EN 141 := fun _ _ => by kernel_rfl
theorem UJ : EN 142 := fun _ _ => by kernel_rfl
theorem Fw : EN 143 := fun _ _ => by kernel_rfl
theorem Fx : EN 144 := fun _ _ => by kernel_rfl
theorem KM : EN 146 := fun _ _ => by kernel_rfl
theorem KN : EN 147 := fun _ _ => by kernel_rfl
theorem UK : EN 148 := fun _ _ => by kernel_rfl
theorem Hw : EN 19 := fun _ _ => by kernel_rfl
theorem pX : EN 20 := fun _ _ => by kernel_rfl
theorem pY : EN 21 := fun _ _ => by kernel_rfl
theorem DI : EN 22 := fun _ _ => by kernel_rfl
theorem RF : EN 23 := fun _ _ => by kernel_rfl
theorem ZU : EN 27 := fun _ _ => by kernel_rfl
theorem RG : EN 29 := fun _ _ => by kernel_rfl
theorem Hx : EN 30 := fun _ _ => by kernel_rfl
theorem Hy : EN 31 := fun _ _ => by kernel_rfl
theorem KO : EN 32 := fun _ _ => by kernel_rfl
theorem Hz : EN 33 := fun _ _ => by kernel_rfl
theorem Ia : EN 34 := fun _ _ => by kernel_rfl
theorem ZV : EN 35 := fun _ _ => by kernel_rfl
theorem RH : EN 38 := fun _ _ => by kernel_rfl
theorem RI : EN 39 := fun _ _ => by kernel_rfl
theorem RJ : EN 40 := fun _ _ => by kernel_rfl
theorem KP : EN 41 := fun _ _ => by kernel_rfl
theorem KQ : EN 42 := fun _ _ => by kernel_rfl
theorem vW : EN 43 := fun _ _ => by kernel_rfl
theorem vX : EN 44 := fun _ _ => by kernel_rfl
theorem gN : EN 45 := fun _ _ => by kernel_rfl
theorem RK : EN 46 := fun _ _ => by kernel_rfl
theorem DJ : EN 47 := fun _ _ => by kernel_rfl
theorem tQ : EN 48 := fun _ _ => by kernel_rfl
theorem ZW : EN 49 := fun _ _ => by kernel_rfl
theorem ZX : EN 50 := fun _ _ => by kernel_rfl
theorem Ib : EN 51 := fun _ _ => by kernel_rfl
theorem Ic : EN 52 := fun _ _ => by kernel_rfl
theorem vY : EN 55 := fun _ _ => by kernel_rfl
theorem DK : EN 56 := fun _ _ => by kernel_rfl
theorem ZY : EN 57 := fun _ _ => by kernel_rfl
theorem KR : EN 58 := fun _ _ => by kernel_rfl
theorem Id : EN 60 := fun _ _ => by kernel_rfl
theorem ZZ : EN 61 := fun _ _ => by kernel_rfl
theorem KS : EN 62 := fun _ _ => by kernel_rfl
theorem Ie : EN 63 := fun _ _ => by kernel_rfl
theorem RL : EN 64 := fun _ _ => by kernel_rfl
theorem If : EN 65 := fun _ _ => by kernel_rfl
theorem Ig : EN 68 := fun _ _ => by kernel_rfl
theorem Ih : EN 69 := fun _ _ => by kernel_rfl
theorem Ii : EN 70 := fun _ _ => by kernel_rfl
theorem Ij : EN 72 := fun _ _ => by kernel_rfl
theorem lK : EN 76 := fun _ _ => by kernel_rfl
theorem Ik : EN 77 := fun _ _ => by kernel_rfl
theorem Il : EN 78 := fun _ _ => by kernel_rfl
theorem qA : EN 79 := fun _ _ => by kernel_rfl
theorem Aa : EN 80 := fun _ _ => by kernel_rfl
theorem Im : EN 81 := fun _ _ => by kernel_rfl
theorem In : EN 82 := fun _ _ => by kernel_rfl
theorem Io : EN 87 := fun _ _ => by kernel_rfl
theorem Ip : EN 88 := fun _ _ => by kernel_rfl
theorem KT : EN 89 := fun _ _ => by kernel_rfl
theorem RM : EN 90 := fun _ _ => by kernel_rfl
theorem Ab : EN 91 := fun _ _ => by kernel_rfl
theorem Iq : EN 92 := fun _ _ => by kernel_rfl
theorem Ir : EN 93 := fun _ _ => by kernel_rfl
theorem KU : EN 94 := fun _ _ => by kernel_rfl
theorem Ad : EN 95 := fun _ _ => by kernel_rfl
theorem Is : EN 96 := fun _ _ => by kernel_rfl
instance : FA Tryz.prog 50 0 0 := ⟨nR⟩
instance : FA Tryz.prog 50 1 1 := ⟨xE⟩
instance : FA Tryz.prog 66 0 0 := ⟨JX⟩
instance : FA Tryz.prog 66 1 1 := ⟨rY⟩
instance : FA Tryz.prog 72 0 0 := ⟨rZ⟩
instance : FA Tryz.prog 72 1 1 := ⟨sB⟩
instance : FA Tryz.prog 39 0 0 := ⟨JY⟩
instance : FA Tryz.prog 39 1 1 := ⟨JZ⟩
instance : FA Tryz.prog 39 2 2 := ⟨BD⟩
instance : FA Tryz.prog 39 3 3 := ⟨KA⟩
instance : FA Tryz.prog 179 0 0 := ⟨DA⟩
instance : FA Tryz.prog 179 1 1 := ⟨DB⟩
instance : FA Tryz.prog 179 2 2 := ⟨DC⟩
instance : FA Tryz.prog 179 3 3 := ⟨xG⟩
instance : FA Tryz.prog 168 0 0 := ⟨ZM⟩
instance : FA Tryz.prog 168 1 1 := ⟨DD⟩
instance : FA Tryz.prog 204 0 0 := ⟨ZO⟩
instance : FA Tryz.prog 204 1 1 := ⟨ZP⟩
instance : FA Tryz.prog 204 2 2 := ⟨ZQ⟩
instance : FA Tryz.prog 141 0 0 := ⟨lI⟩
instance : FA Tryz.prog 141 1 1 := ⟨tO⟩
instance : FA Tryz.prog 141 2 2 := ⟨xH⟩
instance : FA Tryz.prog 108 0 0 := ⟨DF⟩
instance : FA Tryz.prog 108 1 1 := ⟨OD⟩
instance : FA Tryz.prog 33 0 0 := ⟨Ee⟩
instance : FA Tryz.prog 33 1 1 := ⟨Ef⟩
instance : FA Tryz.prog 33 2 2 := ⟨Eg⟩
instance : FA Tryz.prog 33 3 3 := ⟨Eh⟩
instance : FA Tryz.prog 27 0 0 := ⟨lJ⟩
instance : FA Tryz.prog 27 1 1 := ⟨xI⟩
instance : FA Tryz.prog 27 2 2 := ⟨xJ⟩
instance : FA Tryz.prog 27 3 3 := ⟨KD⟩
instance : FA Tryz.prog 27 4 4 := ⟨TS⟩
instance : FA Tryz.prog 52 0 0 := ⟨Ej⟩
instance : FA Tryz.prog 52 1 1 := ⟨KE⟩
instance : FA Tryz.prog 52 2 2 := ⟨TT⟩
instance : FA Tryz.prog 195 0 0 := ⟨ZS⟩
instance : FA Tryz.prog 195 1 1 := ⟨ZT⟩
instance : FA Tryz.prog 54 0 0 := ⟨El⟩
instance : FA Tryz.prog 54 1 1 := ⟨Em⟩
instance : FA Tryz.prog 54 2 2 := ⟨En⟩
instance : FA Tryz.prog 54 3 3 := ⟨Eo⟩
instance : FA Tryz.prog 54 4 4 := ⟨Ep⟩
instance : FA Tryz.prog 54 5 5 := ⟨Es⟩
instance : FA Tryz.prog 54 6 6 := ⟨Et⟩
instance : FA Tryz.prog 54 7 7 := ⟨Eu⟩
instance : FA Tryz.prog 54 8 11 := ⟨Ev⟩
instance : FA Tryz.prog 112 0 0 := ⟨eJ⟩
instance : FA Tryz.prog 112 1 1 := ⟨oN⟩
instance : FA Tryz.prog 115 0 0 := ⟨xK⟩
instance : FA Tryz.prog 115 1 1 := ⟨xL⟩
instance : FA Tryz.prog 115 2 3 := ⟨jQ⟩
instance : FA Tryz.prog 115 3 4 := ⟨qW⟩
instance : FA Tryz.prog 115 4 5 := ⟨gZ⟩
instance : FA Tryz.prog 115 5 6 := ⟨DH⟩
instance : FA Tryz.prog 115 6 22 := ⟨xM⟩
instance : FA Tryz.prog 115 7 23 := ⟨tP⟩
instance : FA Tryz.prog 43 0 0 := ⟨TU⟩
instance : FA Tryz.prog 43 1 1 := ⟨TV⟩
instance : FA Tryz.prog 43 2 2 := ⟨Ex⟩
instance : FA Tryz.prog 43 3 3 := ⟨Ey⟩
instance : FA Tryz.prog 43 4 4 := ⟨Ez⟩
instance : FA Tryz.prog 31 0 0 := ⟨TW⟩
instance : FA Tryz.prog 31 1 1 := ⟨Fa⟩
instance : FA Tryz.prog 31 2 2 := ⟨KF⟩
instance : FA Tryz.prog 31 3 3 := ⟨KG⟩
instance : FA Tryz.prog 31 4 4 := ⟨BF⟩
instance : NA Tryz.prog 3 := ⟨bN⟩
instance : NA Tryz.prog 4 := ⟨iE⟩
instance : NA Tryz.prog 5 := ⟨lH⟩
instance : NA Tryz.prog 22 := ⟨Dy⟩
instance : NA Tryz.prog 23 := ⟨Dz⟩
instance : NA Tryz.prog 24 := ⟨uR⟩
instance : NA Tryz.prog 25 := ⟨bI⟩
instance : NA Tryz.prog 35 := ⟨Ea⟩
instance : NA Tryz.prog 40 := ⟨xD⟩
instance : NA Tryz.prog 41 := ⟨BB⟩
instance : NA Tryz.prog 47 := ⟨BC⟩
instance : NA Tryz.prog 48 := ⟨Ec⟩
instance : NA Tryz.prog 60 := ⟨JV⟩
instance : NA Tryz.prog 61 := ⟨Ed⟩
instance : NA Tryz.prog 105 := ⟨ZJ⟩
instance : NA Tryz.prog 106 := ⟨qU⟩
instance : NA Tryz.prog 109 := ⟨kG⟩
instance : NA Tryz.prog 110 := ⟨eM⟩
instance : NA Tryz.prog 137 := ⟨ZK⟩
instance : NA Tryz.prog 139 := ⟨CZ⟩
instance : US Tryz.prog 22 31 := ⟨Tryz.underlying22⟩
instance : US Tryz.prog 23 33 := ⟨Tryz.underlying23⟩
instance : US Tryz.prog 24 66 := ⟨Tryz.underlying24⟩
instance : US Tryz.prog 25 5 := ⟨Tryz.underlying25⟩
instance : US Tryz.prog 40 39 := ⟨Tryz.underlying40⟩
instance : US Tryz.prog 41 54 := ⟨Tryz.underlying41⟩
instance : US Tryz.prog 47 50 := ⟨Tryz.underlying47⟩
instance : US Tryz.prog 48 204 := ⟨Tryz.underlying48⟩
instance : US Tryz.prog 60 3 := ⟨Tryz.underlying60⟩
instance : US Tryz.prog 61 27 := ⟨Tryz.underlying61⟩
instance : US Tryz.prog 106 24 := ⟨Tryz.underlying106⟩
instance : US Tryz.prog 109 168 := ⟨Tryz.underlying109⟩
instance : US Tryz.prog 139 179 := ⟨Tryz.underlying139⟩
instance : US Tryz.prog 219 25 := ⟨Tryz.underlying219⟩
instance : US Tryz.prog 236 215 := ⟨Tryz.underlying236⟩
open Go.ChangeShapes Go.WideShapes Go.ChangeAt Go.RowKit Go.Deep
section
variable {H : Type} {enc : TypeId × Value → H} {P : Program} {w : World}
end
theorem kR {k : IntKind} {a b : Int} (h : a = b) : Ending.returned (.int k a) = .returned (.int k b) := by rw [h]
def iH (n : Nat) : Int := if 1 ≤ n ∧ n ≤ 8 then 0 else 1
theorem kH {n : Nat} (h1 : 1 ≤ n) (h2 : n ≤ 8) : iH n = 0 := by unfold iH; rw [if_pos ⟨h1, h2⟩]
theorem uV {n : Nat} (h : ¬ (1 ≤ n ∧ n ≤ 8)) : iH n = 1 := by unfold iH; rw [if_neg h]
theorem hH (w : World) (a : Option Addr) (n c : Nat) :
    Calls Tryz.prog 42 #[.slice a n c] w fun e w' => e = .returned (.int .i64 (iH n)) ∧ w' = w := by
 by_cases h : 1 ≤ n ∧ n ≤ 8
 ·rw [kH h.1 h.2]
  obtain ⟨h1, h2⟩ := h
  go_enter Tryz.func42, Tryz.ntmps42
  go_wp2
  go_ret
  exact ⟨rfl, rfl⟩
 ·rw [uV h]
  by_cases h1 : n < 1
  ·clear h
   go_enter Tryz.func42, Tryz.ntmps42
   go_wp2
   go_ret
   exact ⟨rfl, rfl⟩
  ·have h2 : 8 < n := by omega
   clear h
   go_enter Tryz.func42, Tryz.ntmps42
   go_wp2
   go_ret
   exact ⟨rfl, rfl⟩
theorem TreeOk.small {n : Nat} {l : List Pr} (h : TreeOk n l) {p : Pr} (hp : p ∈ l) : p.1.length ≤ 100000 ∧ p.2.length ≤ 100000 := by
 obtain ⟨_, h2, h3⟩ := h.ok p hp; omega
theorem WE {l : List Pr} {k v : By} (h : fD l k = true) : eV l k v = l.set (aU l k) (k, v) := by unfold eV; rw [if_pos h]
theorem Ae {l : List Pr} {k v : By} (h : ¬ fD l k = true) : eV l k v = l.take (aU l k) ++ (k, v) :: l.drop (aU l k) := by unfold eV; rw [if_neg h]
theorem DL (f : aO) (w : Wr) : fW f [w] = eR f w := by
 simp only [fW]
 cases eR f w <;> rfl
set_option linter.unusedSimpArgs false
theorem fK {α : Type} {l : List α} {k : Nat} {p : α} (h : l[k]? = some p) : l.take (k + 1) = l.take k ++ [p] := by
 obtain ⟨hk, rfl⟩ := List.getElem?_eq_some_iff.1 h
 exact List.take_succ_eq_append_getElem hk
theorem zA (F : Fz) (w : World) (v : Value) (p : Pr) (hs : Sat w F) (hv : Pr2V F v p) (hk : p.1.length ≤ 100000) (hx : p.2.length ≤ 100000) :
    Calls Tryz.prog 64 #[v] w (dB w F fun F' u => Pr2V F' u p) := by
 obtain ⟨x0, y0, x1, y1, rfl, h0, h1⟩ := hv
 have S := St.start hs
 go_enter Tryz.func64, Tryz.ntmps64
 refine aE fun K1 hK1 => ?_
 refine aB ?_
 refine bD S (v := fun n => .pointer (aA n 0)) rfl (cB (v := (.agg #[(.slice x0 p.1.length y0), (.slice x1 p.2.length y1)])) rfl) (fun n2 w3 S4 => ?_)
 refine sA S4 (uS _) fun n5 w6 S7 => ?_
 refine aG ?_
 refine hK1 _ _ ?_
 refine aE fun K8 hK8 => ?_
 refine aT F 5 [(2, .made (fun F' u => Bs F' u p.1))] (by kernel_rfl) (by kernel_rfl) ?_
 simp only [dD]
 refine gf (nR _ _) ?_
 refine gl bI S7 1 ?_
 simp only [pq]
 refine dF rfl rfl (fun w9 C9 hF => bO (cK (vs := #[(.slice x0 p.1.length y0)]) (lG rfl) rfl (gN _ _)) (cS S7.sat C9 (cZ _ _ _ p.1 ((St.tells S7 C9)).sat h0 (by omega)))) (fun b6 => ?_)
 refine gf (xE _ _) ?_
 refine gl bI S7 1 ?_
 refine bY ?_
 intro b7 b2 a0
 obtain ⟨b3, a7, b4⟩ := a0.get 2 rfl rfl
 have a8 := St.gives S7 a7
 have a1 : Le _ _ := a7.le S7.sat
 have a9 := b4
 generalize b3 = b9 at *
 obtain ⟨a2, a3, rfl, _⟩ := a9.shape
 clear a0
 simp only [dE]
 refine aR a8 rfl (fn1 (gN _ _)) (cZ _ _ _ p.2 (a8).sat (h1.mono a1) (by omega)) ?_
 intro c0 c1 c2 b5 a4 b0
 obtain ⟨a5, a6, rfl, _⟩ := b0.shape
 simp only [pq]
 refine dr (.agg #[(.slice a2 p.1.length a3), (.slice a5 p.2.length a6)]) (aL (fY rfl rfl) (by kernel_rfl)) ?_
 refine sW 0 b5 (dL) fun c3 b1 => ?_
 refine aG ?_
 refine hK8 _ _ ?_
 refine aP ?_
 try simp only [xt]
 refine bR (qR rfl ⟨_, rfl, lR b1 0 Tryz.underlying50 (dL)⟩) ?_
 exact ⟨_, _, rfl, b1.gr, ⟨_, _, _, _, rfl, (a9.mono a4), b0⟩⟩
theorem xN (F : Fz) (w : World) (v : Value) (l : List Pr) (hs : Sat w F) (hv : Prs F v l) (hl : l.length ≤ 100000) (hL : ∀ p ∈ l, p.1.length ≤ 100000 ∧ p.2.length ≤ 100000) :
    Calls Tryz.prog 62 #[v] w (rV w F 2 PrC 50 l) := by
 obtain ⟨a, c, rfl, hc1, hc2⟩ := Sl.shape hv
 unfold maxLen at hc2
 obtain ⟨d1, b2, b3, b4, b5⟩ := info_parts nQ
 have S := St.start hs
 go_enter Tryz.func62, Tryz.ntmps62
 refine aE fun K1 hK1 => ?_
 refine aB ?_
 refine dy ?_
 refine aG ?_
 try simp only [xt]
 refine hK1 _ _ ?_
 refine aE fun K2 hK2 => ?_
 refine aB ?_
 refine dy ?_
 refine aG ?_
 try simp only [xt]
 refine hK2 _ _ ?_
 refine aE fun K3 hK3 => ?_
 refine aE fun K4 hK4 => ?_
 refine aB ?_
 refine aC ?_
 refine aG ?_
 try simp only [xt]
 refine hK4 _ _ ?_
 refine aM ?_
 have S5 := St.addNil S 2 PrC PrC.mono 50 w.heap.size
 refine bA (fun mm aa w8 => ∃ (k : Nat) (v : Value) (F6 : Fz) (u7 : Nat → Value), mm = l.length - k ∧ aa = ⟨([(.slice a l.length c), undef, Zn, v, undef, (u7 5), (.slice a l.length c), (nI l.length), (nI k)] ++ (usF u7 9 9 [undef])).toArray, []⟩ ∧ St w F w8 F6 [] [bZ 2 PrC PrC.mono 50 w.heap.size v (l.take k)] ∧ Le F F6 ∧ (k ≤ l.length)) _ ⟨0, Zn, F, (TM [(.slice a l.length c), undef, Zn, Zn, undef, undef, (.slice a l.length c), (nI l.length), (iI 0), undef, undef, undef, undef, undef, undef, undef, undef, undef, undef]), rfl, rfl, S5, Le.refl _, (by omega)⟩ ?_
 rintro m9 e4 e5 ⟨k, v, F6, u7, rfl, hfr, a5, a6, hk⟩ e6 b6
 simp only [uzF, Nat.reduceAdd] at hfr; subst hfr
 refine aE fun e7 a7 => ?_
 refine aB ?_
 by_cases hc9 : k < l.length
 refine eZ ?_
 refine aG ?_
 try simp only [xt]
 refine a7 _ _ ?_
 refine aE fun e8 b7 => ?_
 refine aJ ?_
 refine aH ?_
 try simp only [xt]
 refine b7 _ _ ?_
 refine aE fun e9 b9 => ?_
 refine aM ?_
 refine aE fun f0 c0 => ?_
 refine aB ?_
 obtain ⟨p, hp⟩ : ∃ p, l[k]? = some p := ⟨l[k], List.getElem?_eq_getElem hc9⟩
 have hpl := hL p (List.mem_of_getElem? hp)
 have htk : (l.take k).length = k := by rw [List.length_take]; omega
 obtain ⟨c6, c7, c1, a8, a9, b0, b1, d2, d3, d4, d5⟩ := Prs.get (hv.mono a6) hp
 refine dr (pP c6 (c7 + k * 2)) (bP (i := k) (sz := 2) Tryz.underlying47 (bL _) rfl c1 rfl (by omega) rfl) ?_
 refine dr _ (aD rfl (cN Tryz.underlying50 rfl (dL) (kC (St.fz a5 d2) (St.fz a5 d3)))) ?_
 simp only [pq]
 refine sA a5 (uS _) fun d6 f1 d7 => ?_
 refine sW 0 d7 (dL) fun f2 c2 => ?_
 refine aG ?_
 try simp only [xt]
 refine c0 _ _ ?_
 refine aB ?_
 refine dx ?_
 refine dR c2 0 Tryz.underlying50 (dL) ?_
 simp only [pq]
 refine aR c2 rfl (fn1 (RL _ _)) (zA _ _ _ p (c2).sat ⟨_, _, _, _, rfl, d4, d5⟩ (by omega) (by omega)) ?_
 intro f3 f4 d8 d9 c3 e0
 obtain ⟨a0, a1, a2, a3, rfl, c8, c9⟩ := e0
 refine bD d9 (v := fun n => .slice (aA n 0) 1 1) rfl (bS (ps := #[(0, (.agg #[(.slice a0 p.1.length a1), (.slice a2 p.2.length a3)]))]) (cells := #[(.slice a0 p.1.length a1), (.slice a2 p.2.length a3)]) (E := 50) (cH rfl) (fun w => by kernel_rfl)) (fun e1 f5 d0 => ?_)
 simp only [pq]
 refine eN (i := 0) (r := 0) (p := p) (cs := [(.slice a0 p.1.length a1), (.slice a2 p.2.length a3)]) d0 rfl d1 (.agg #[Zn, Zn]) 48 Tryz.underlying47 b2 b3 b4 b5 rfl (by decide) rfl rfl rfl rfl rfl (PrC.oneCell ⟨_, _, rfl, c8, c9⟩) (⟨_, _, rfl, c8, c9⟩) (Nat.le_refl _) d0.gr.below.size (by unfold maxLen; omega) (by omega) ?_
 intro c4 f6 a4 e2
 simp only [pq]
 have a4 := St.drop a4 (.cons _ (List.Sublist.refl _))
 refine dy ?_
 refine aG ?_
 try simp only [xt]
 refine b9 _ _ ?_
 refine aB ?_
 refine cO (k + 1) ?_
 refine dx ?_
 simp only [pq]
 refine aG ?_
 try simp only [xt]
 have a4 := St.drop a4 (.cons _ (List.Sublist.refl _))
 rw [← fK hp] at a4
 exact b6 _ _ _ (by omega) ⟨(k + 1), c4, d8, (TM [(.slice a l.length c), undef, Zn, c4, undef, (pP d6 0), (.slice a l.length c), (nI l.length), (nI (k + 1)), bT, (pP c6 (c7 + k * 2)), (.agg #[(.slice a8 p.1.length a9), (.slice b0 p.2.length b1)]), v, (.agg #[(.slice a8 p.1.length a9), (.slice b0 p.2.length b1)]), (.agg #[(.slice a0 p.1.length a1), (.slice a2 p.2.length a3)]), (.slice (aA e1 0) 1 1), c4, (nI (k + 1)), undef]), rfl, rfl, a4, (a6.trans c3), (by omega)⟩
 refine eT ?_
 refine aG ?_
 try simp only [xt]
 refine a7 _ _ ?_
 refine aE fun f7 e3 => ?_
 refine aF ?_
 refine cV ?_
 try simp only [xt]
 refine hK3 _ _ ?_
 refine aE fun f8 c5 => ?_
 refine aB ?_
 refine aC ?_
 refine aG ?_
 try simp only [xt]
 refine c5 _ _ ?_
 refine aP ?_
 try simp only [xt]
 refine bR (bK rfl (gD rfl)) ?_
 obtain rfl : k = l.length := by omega
 exact ⟨_, _, rfl, a5.gr, by have h := St.own (i := 0) a5 rfl; rwa [List.take_length] at h⟩
theorem zY {P : Program} {w : World} {F : Fz} {v : Value} {l : List UInt8} (hs : Sat w F) (hv : Bs F v l) : (Extern.Bytes.bytesOf v).run P w = .ok ⟨l.toArray⟩ w := by
 obtain ⟨a, c, rfl, h1, h2⟩ := hv.shape
 cases a with
 | none =>
  obtain ⟨_, _, q1, _, _, q4, _⟩ := hv
  cases q1
  have : l = [] := List.eq_nil_of_length_eq_zero (q4 rfl).1
  subst this
  rfl
 | some a =>
  by_cases hl : l = []
  ·subst hl; rfl
  ·have hpos := List.length_pos_iff.2 hl
   obtain ⟨b, o, e, hc⟩ := hv.addr hpos
   cases e
   have key : ∀ (m : List UInt8) (j : Nat) (acc : ByteArray), (∀ (i : Nat) (h : i < m.length), w.cell? ⟨b, o + j + i, none⟩ = some (.int .u8 (m[i].toNat : Int))) → (Extern.Bytes.loadBytes ⟨b, o + j, none⟩ m.length acc).run P w = .ok ⟨acc.data ++ m.toArray⟩ w := by
    intro m
    induction m with
    | nil => intro j acc _; simp [Extern.Bytes.loadBytes]
    | cons x m ih =>
     intro j acc h
     have h0 := h 0 (by simp)
     simp only [Nat.add_zero, List.getElem_cons_zero] at h0
     have e : (⟨b, o + j, none⟩ : Addr).add 1 = ⟨b, o + (j + 1), none⟩ := by rw [Addr.add_mid]; rfl
     have ih' := ih (j + 1) (acc.push x) (fun i hi => by
      have := h (i + 1) (by simpa using hi)
      simp only [List.getElem_cons_succ] at this
      rw [show o + (j + 1) + i = o + j + (i + 1) from by omega]; exact this)
     simp only [List.length_cons, Extern.Bytes.loadBytes, Sem.run_bind, run_load, h0, Result.andThen]
     rw [e]
     simp only [Int.toNat_natCast]
     rw [show x.toNat.toUInt8 = x from by simp]
     rw [ih']
     congr 2
     simp [ByteArray.push]
   have := key l 0 .empty (fun i hi => hs.cell (hc i hi))
   simp only [Nat.add_zero] at this
   show (Extern.Bytes.loadBytes ⟨b, o, none⟩ l.length .empty).run P w = _
   rw [this]
   congr 2
   simp [ByteArray.empty, ByteArray.emptyWithCapacity]
   rfl
theorem sR : ∀ (a b : List UInt8), Lib.compareBytes a b = eY a b
  | [], [] => by simp [Lib.compareBytes, eY, Op.bytesLess]
  | [], _ :: _ => by simp [Lib.compareBytes, eY, Op.bytesLess]
  | _ :: _, [] => by simp [Lib.compareBytes, eY, Op.bytesLess]
  | x :: a, y :: b => by
    have ih := sR a b
    unfold Lib.compareBytes
    rw [ih]
    unfold eY
    simp only [Op.bytesLess, Bool.or_eq_true, decide_eq_true_eq, Bool.and_eq_true, beq_iff_eq, List.cons.injEq]
    by_cases h1 : x < y
    · simp [h1]
    · by_cases h2 : y < x
      · have h3 : x ≠ y := by rintro rfl; exact h1 h2
        simp [h1, h2, h3]
      · have h3 : x = y := by
          apply UInt8.toNat_inj.1
          have e1 : ¬ x.toNat < y.toNat := fun q => h1 (UInt8.lt_iff_toNat_lt.2 q)
          have e2 : ¬ y.toNat < x.toNat := fun q => h2 (UInt8.lt_iff_toNat_lt.2 q)
          omega
        subst h3
        simp [h1]
theorem vZ {w : World} {F : Fz} {v u : Value} {l m : List UInt8} (hs : Sat w F) (hv : Bs F v l) (hu : Bs F u m) : (callFunc 59 #[v, u]).run Tryz.prog w = .ok (.value (.int .i64 (eY l m))) w := by
 rw [run_callFunc_extern Tryz.func59 (by kernel_rfl) (by kernel_rfl) (by kernel_rfl) (e := Extern.BytealgCompare.compare) (by kernel_rfl)]
 have e : (Extern.BytealgCompare.compare #[v, u]).run Tryz.prog w = .ok (goInt (Extern.BytealgCompare.cmp ⟨l.toArray⟩ ⟨m.toArray⟩)) w := by
  change Sem.run Tryz.prog (do pure (goInt (Extern.BytealgCompare.cmp (← Extern.Bytes.bytesOf v) (← Extern.Bytes.bytesOf u)))) w = _
  simp only [Sem.run_bind, zY hs hv, zY hs hu, Result.andThen_ok, Sem.run_pure]
 rw [e, Lib.cmp_eq, sR]
 rfl
theorem fA (F : Fz) (w : World) (v u : Value) (l m : List UInt8) (hs : Sat w F) (hv : Bs F v l) (hu : Bs F u m) :
    Calls Tryz.prog 44 #[v, u] w (cU w (.int .i64 (eY l m))) := by
 obtain ⟨a, c, rfl, _⟩ := hv.shape
 obtain ⟨a2, c2, rfl, _⟩ := hu.shape
 have S := St.start hs
 go_enter Tryz.func44, Tryz.ntmps44
 refine sk fun K1 hK1 => ?_
 refine dy ?_
 refine wn hK1 ?_
 refine sk fun K2 hK2 => ?_
 iterate 2 refine dx ?_
 refine dr (.int .i64 (eY l m)) (RC (vs := #[(.slice a l.length c), (.slice a2 m.length c2)]) (iD rfl rfl) rfl (vZ (S).sat hv hu)) ?_
 simp only [pq]
 refine dy ?_
 refine wn hK2 ?_
 refine aP ?_
 try simp only [xt]
 refine bR (bK rfl (gD rfl)) ?_
 exact ⟨rfl, S.gr.below⟩
theorem nS (F : Fz) (w : World) (v u : Value) (p q : Pr) (hs : Sat w F) (hv : Pr2V F v p) (hu : Pr2V F u q) :
    Calls Tryz.prog 58 #[v, u] w (cU w (.int .i64 (eY p.1 q.1))) := by
 obtain ⟨x0, y0, x1, y1, rfl, h0, h1⟩ := hv
 obtain ⟨x0q, y0q, x1q, y1q, rfl, k0, k1⟩ := hu
 have S := St.start hs
 go_enter Tryz.func58, Tryz.ntmps58
 refine sk fun K1 hK1 => ?_
 refine bD S (v := fun n => .pointer (aA n 0)) rfl (cB (v := (.agg #[(.slice x0 p.1.length y0), (.slice x1 p.2.length y1)])) rfl) (fun n2 w3 S4 => ?_)
 refine bD S4 (v := fun n => .pointer (aA n 0)) rfl (cB (v := (.agg #[(.slice x0q q.1.length y0q), (.slice x1q q.2.length y1q)])) rfl) (fun n5 w6 S7 => ?_)
 simp only [pq]
 refine dy ?_
 refine wn hK1 ?_
 refine sk fun K8 hK8 => ?_
 refine aC ?_
 refine aI (v := (.int .i64 (eY p.1 q.1))) S7 rfl (fn2 (vX _ _)) (fA _ _ _ _ p.1 q.1 (S7).sat h0 k0) (fun w9 a0 => ?_)
 refine dy ?_
 refine wn hK8 ?_
 refine aP ?_
 try simp only [xt]
 refine bR (bK rfl (gD rfl)) ?_
 exact ⟨rfl, a0.gr.below⟩
def fU (p : Pr) : Int := if 32 < p.2.length then 1 else cJ p.1.length
theorem IE (F : Fz) (w : World) (v : Value) (p : Pr) (hs : Sat w F) (hv : Pr2V F v p) :
    Calls Tryz.prog 57 #[v] w (cU w (.int .i64 (fU p))) := by
 obtain ⟨x0, y0, x1, y1, rfl, h0, h1⟩ := hv
 have S := St.start hs
 go_enter Tryz.func57, Tryz.ntmps57
 refine sk fun K1 hK1 => ?_
 refine bD S (v := fun n => .pointer (aA n 0)) rfl (cB (v := (.agg #[(.slice x0 p.1.length y0), (.slice x1 p.2.length y1)])) rfl) (fun n2 w3 S4 => ?_)
 refine dy ?_
 refine wn hK1 ?_
 refine aE fun K5 hK5 => ?_
 refine sk fun K6 hK6 => ?_
 refine aC ?_
 by_cases hc6 : 32 < p.2.length
 refine sX ?_
 refine wn hK6 ?_
 refine aJ ?_
 refine sk fun K7 hK7 => ?_
 refine dy ?_
 refine wn hK7 ?_
 refine aP ?_
 try simp only [xt]
 refine bR (bK rfl (gD rfl)) ?_
 refine ⟨?_, S4.gr.below⟩
 unfold fU
 first | rw [if_pos (by omega)] | rw [if_neg (by omega)]
 refine mO ?_
 simp only [pq]
 refine wn hK6 ?_
 refine aF ?_
 refine aH ?_
 refine hK5 _ _ ?_
 refine sk fun K8 hK8 => ?_
 refine aC ?_
 refine aI (v := (.int .i64 (cJ p.1.length))) S4 rfl (fn1 (vY _ _)) (eI (iA _ _ _ p.1 h0)) (fun w9 a0 => ?_)
 refine dy ?_
 simp only [pq]
 refine wn hK8 ?_
 refine aP ?_
 try simp only [xt]
 refine bR (bK rfl (gD rfl)) ?_
 refine ⟨?_, a0.gr.below⟩
 unfold fU
 first | rw [if_pos (by omega)] | rw [if_neg (by omega)]
def oO (l : List Pr) : Nat → Nat → Int
  | 0, _ => 0
  | n + 1, k => match l[k]? with
    | none => 0
    | some p => if fU p ≠ 0 then fU p else if 0 < k ∧ 0 ≤ eY (l.getD (k - 1) ([], [])).1 p.1 then 3 else oO l n (k + 1)
def jG (l : List Pr) : Int := if 60 < l.length then 1 else oO l l.length 0
theorem uW {l : List Pr} {k : Nat} {p : Pr} (hp : l[k]? = some p) : oO l (l.length - k) k = if fU p ≠ 0 then fU p else if 0 < k ∧ 0 ≤ eY (l.getD (k - 1) ([], [])).1 p.1 then 3 else oO l (l.length - (k + 1)) (k + 1) := by
 obtain ⟨hk, _⟩ := List.getElem?_eq_some_iff.1 hp
 rw [show l.length - k = (l.length - (k + 1)) + 1 from by omega]
 simp only [oO, hp]
theorem RN {l : List Pr} {k : Nat} (hk : l.length ≤ k) : oO l (l.length - k) k = 0 := by rw [show l.length - k = 0 from by omega]; rfl
theorem tR {p : Pr} : fU p = 0 ↔ CE p := by
 unfold fU CE cJ
 split
 ·omega
 ·split <;> omega
theorem oP {l : List Pr} : jG l = 0 ↔ TreeOk 60 l := by
 unfold jG
 by_cases hl : 60 < l.length
 rw [if_pos hl]
 exact ⟨fun h => by omega, fun h => by have := h.len; omega⟩
 rw [if_neg hl]
 have key : ∀ n k, n + k = l.length → (oO l n k = 0 ↔ ∀ i (hi : i < l.length), k ≤ i → CE l[i] ∧ (0 < i → Lt (l.getD (i - 1) ([], [])).1 l[i].1)) := by
  intro n
  induction n with
  | zero => intro k hk; simp only [oO]; exact ⟨fun _ i hi h => by omega, fun _ => trivial⟩
  | succ n ih =>
   intro k hk
   have hk' : k < l.length := by omega
   simp only [oO, List.getElem?_eq_getElem hk']
   have ihk := ih (k + 1) (by omega)
   by_cases hp : fU l[k] = 0
   rw [if_neg (by simp [hp])]
   by_cases hc : 0 < k ∧ 0 ≤ eY (l.getD (k - 1) ([], [])).1 l[k].1
   rw [if_pos hc]
   refine ⟨fun h => by omega, fun h => ?_⟩
   have := (h k hk' (Nat.le_refl _)).2 hc.1
   have := rL.2 this
   omega
   rw [if_neg hc, ihk]
   refine ⟨fun h i hi hki => ?_, fun h i hi hki => h i hi (by omega)⟩
   by_cases e : i = k
   subst e
   refine ⟨tR.1 hp, fun h0 => rL.1 ?_⟩
   have : ¬ 0 ≤ eY (l.getD (i - 1) ([], [])).1 l[i].1 := fun h => hc ⟨h0, h⟩
   omega
   exact h i hi (by omega)
   rw [if_pos hp]
   exact ⟨fun h => absurd h hp, fun h => absurd (tR.2 (h k hk' (Nat.le_refl _)).1) hp⟩
 rw [key l.length 0 (by omega)]
 constructor
 intro h
 refine ⟨by omega, fun p hp => ?_, ?_⟩
 obtain ⟨i, hi, rfl⟩ := List.mem_iff_getElem.1 hp
 exact (h i hi (by omega)).1
 have step : ∀ j i (hi : i < l.length) (hj : j < l.length), i < j → Lt l[i].1 l[j].1 := by
  intro j
  induction j with
  | zero => intro i _ _ h; omega
  | succ j ih =>
   intro i hi hj hij
   have h1 := (h (j + 1) hj (by omega)).2 (by omega)
   simp only [Nat.add_sub_cancel, List.getD, List.getElem?_eq_getElem (show j < l.length by omega), Option.getD_some] at h1
   by_cases e : i = j
   subst e; exact h1
   exact lW _ _ _ (ih i hi (by omega) (by omega)) h1
 exact List.pairwise_iff_getElem.2 fun i j hi hj hij => step j i hi hj hij
 intro h i hi _
 refine ⟨h.ok _ (List.getElem_mem hi), fun h0 => ?_⟩
 simp only [List.getD, List.getElem?_eq_getElem (show i - 1 < l.length by omega), Option.getD_some]
 exact List.pairwise_iff_getElem.1 h.rise (i - 1) i (by omega) hi (by omega)
theorem iS (F : Fz) (w : World) (v : Value) (l : List Pr) (hs : Sat w F) (hv : Prs F v l) :
    Calls Tryz.prog 43 #[v] w (cU w (.int .i64 (jG l))) := by
 obtain ⟨a, c, rfl, hc1, hc2⟩ := Sl.shape hv
 unfold maxLen at hc2
 have S := St.start hs
 go_enter Tryz.func43, Tryz.ntmps43
 refine sk fun K1 hK1 => ?_
 refine dy ?_
 refine wn hK1 ?_
 refine aE fun K2 hK2 => ?_
 refine sk fun K3 hK3 => ?_
 refine aC ?_
 by_cases hc8 : 60 < l.length
 refine sX ?_
 refine wn hK3 ?_
 refine aJ ?_
 refine sk fun K4 hK4 => ?_
 refine dy ?_
 refine wn hK4 ?_
 refine aP ?_
 try simp only [xt]
 refine bR (bK rfl (gD rfl)) ?_
 exact ⟨by unfold jG; rw [if_pos (by omega)], S.gr.below⟩
 refine mO ?_
 simp only [pq]
 refine wn hK3 ?_
 refine aF ?_
 refine aH ?_
 refine hK2 _ _ ?_
 refine aE fun K5 hK5 => ?_
 refine sk fun K6 hK6 => ?_
 refine aC ?_
 refine wn hK6 ?_
 refine aM ?_
 refine bA (fun mm aa w8 => ∃ (k : Nat) (u7 : Nat → Value), mm = l.length - k ∧ u7 = dV aa ∧ aa = ⟨([(.slice a l.length c), undef] ++ (usF u7 2 4 ([(.slice a l.length c), (nI l.length), bF, (.slice a l.length c), (nI l.length), (nI k)] ++ (usF u7 12 22 [])))).toArray, []⟩ ∧ St w F w8 F [] [] ∧ (k ≤ l.length) ∧ (oO l l.length 0 = oO l (l.length - k) k)) _ ⟨0, _, rfl, rfl, rfl, S, (by omega), rfl⟩ ?_
 rintro m9 f1 f2 ⟨k, u7, rfl, -, hfr, a7, hk, hT⟩ f3 a2
 simp only [uzF, Nat.reduceAdd] at hfr; subst hfr
 refine sk fun f4 a3 => ?_
 by_cases b0 : k < l.length
 refine eZ ?_
 refine wn a3 ?_
 refine aE fun f5 b1 => ?_
 refine aJ ?_
 refine aH ?_
 refine b1 _ _ ?_
 refine aE fun f6 a4 => ?_
 refine aM ?_
 refine sk fun f7 b2 => ?_
 refine dx ?_
 simp only [pq]
 obtain ⟨p, hp⟩ : ∃ p, l[k]? = some p := ⟨l[k], List.getElem?_eq_getElem b0⟩
 obtain ⟨d5, d6, b3, b4, b5, b6, b7, d7, d8, d2, d3⟩ := Prs.get hv hp
 refine dr (pP d5 (d6 + k * 2)) (bP (i := k) (sz := 2) Tryz.underlying47 (bL _) rfl b3 rfl (by omega) rfl) ?_
 refine dr _ (aD rfl (cN Tryz.underlying50 rfl (dL) (kC (St.fz a7 d7) (St.fz a7 d8)))) ?_
 refine sA a7 (uS _) fun f8 f9 d9 => ?_
 simp only [pq]
 refine dy ?_
 refine sW 0 d9 (dL) fun g0 b9 => ?_
 refine wn b2 ?_
 refine aE fun g1 c0 => ?_
 refine sk fun g2 c1 => ?_
 refine dR b9 0 Tryz.underlying50 (dL) ?_
 simp only [pq]
 refine aI (v := (.int .i64 (fU p))) b9 rfl (fn1 (ZY _ _)) (IE _ _ _ p (b9).sat ⟨_, _, _, _, rfl, d2, d3⟩) (fun g3 a1 => ?_)
 refine dy ?_
 refine wn c1 ?_
 refine sk fun g4 a5 => ?_
 refine dx ?_
 simp only [pq]
 by_cases c2 : (fU p) = (0 : Int)
 refine nB ?_
 refine wn a5 ?_
 refine aF ?_
 refine aH ?_
 refine c0 _ _ ?_
 refine aE fun g5 a0 => ?_
 by_cases h0 : 0 < k
 obtain ⟨q, hq⟩ : ∃ q, l[k - 1]? = some q := ⟨l[k - 1], List.getElem?_eq_getElem (by omega)⟩
 have hqd : l.getD (k - 1) ([], []) = q := by rw [List.getD_eq_getElem?_getD, hq]; rfl
 obtain ⟨e0, e1, c3, e2, e3, e4, e5, e6, e7, e8, e9⟩ := Prs.get hv hq
 refine aT F 9 [] (by kernel_rfl) (by kernel_rfl) ?_
 simp only [dD]
 refine gm ?_
 refine gv bT (fun _ _ => tK (m := ((k : Nat) : Int)) (n := (0 : Int)) (b := true) rfl rfl (decide_eq_true (by omega))) ?_
 simp only [pq]
 iterate 3 refine gm ?_
 simp only [pq]
 refine gv (nI (k - 1)) (fun _ _ => tL (m := ((k : Nat) : Int)) (n := (1 : Int)) (r := (((k - 1) : Nat) : Int)) rfl rfl (by omega) (by omega) (by omega)) ?_
 refine gv (pP e0 (e1 + (k - 1) * 2)) (fun _ _ => bP (i := (k - 1)) (sz := 2) Tryz.underlying47 (bL _) rfl c3 rfl (by omega) rfl) ?_
 refine gv _ (fun _ a8 => aD rfl (cN Tryz.underlying50 rfl (dL) (kC (St.fz (St.tells a1 a8) e6) (St.fz (St.tells a1 a8) e7)))) ?_
 simp only [pq]
 refine gv _ (fun _ a8 => aD rfl (cN Tryz.underlying50 rfl (dL) (St.range (St.tells a1 a8) (i := 0) rfl 0 [(.slice b4 p.1.length b5), (.slice b6 p.2.length b7)] (dC 0 rfl)))) ?_
 refine bY ?_
 intro g6 c4 c5
 clear c5
 have d4 := St.tells a1 c4
 simp only [dE]
 refine aI (v := (.int .i64 (eY q.1 p.1))) d4 rfl (fn2 (KR _ _)) (nS _ _ _ _ q p (d4).sat ⟨_, _, _, _, rfl, e8, e9⟩ ⟨_, _, _, _, rfl, d2, d3⟩) (fun g7 a9 => ?_)
 simp only [pq]
 by_cases a6 : (0 : Int) ≤ (eY q.1 p.1)
 refine ZA ?_
 refine dp ?_
 refine wlK a0 ?_
 refine aJ ?_
 refine sk fun g8 c6 => ?_
 refine dy ?_
 simp only [pq]
 refine wn c6 ?_
 refine aP ?_
 try simp only [xt]
 refine bR (bK rfl (gD rfl)) ?_
 exact ⟨by unfold jG; rw [if_neg (by omega), hT, uW hp, if_neg (by omega), if_pos ⟨h0, by rw [hqd]; exact a6⟩], a9.gr.below⟩
 refine ZB ?_
 refine dp ?_
 refine wlK a0 ?_
 refine aF ?_
 refine aH ?_
 refine a4 _ _ ?_
 refine aB ?_
 refine cO (k + 1) ?_
 refine dx ?_
 simp only [pq]
 refine aG ?_
 have a9 := St.drop a9 (.cons _ (List.Sublist.refl _))
 exact a2 _ _ _ (by omega) ⟨(k + 1), _, rfl, rfl, rfl, a9, (by omega), (by rw [hT, uW hp, if_neg (by omega), if_neg (fun h => a6 (by have := h.2; rw [hqd] at this; exact this))])⟩
 refine aT F 9 [] (by kernel_rfl) (by kernel_rfl) ?_
 simp only [dD]
 refine gm ?_
 refine gv bF (fun _ _ => tK (m := ((k : Nat) : Int)) (n := (0 : Int)) (b := false) rfl rfl (decide_eq_false (by omega))) ?_
 refine gm ?_
 simp only [pq]
 refine dY (cE rfl rfl rfl (c := false) rfl (by decide)) ?_
 simp only [pq]
 refine dY (cE rfl rfl rfl (c := false) rfl (by decide)) ?_
 simp only [pq]
 refine dY (cE rfl rfl rfl (c := false) rfl (by decide)) ?_
 simp only [pq]
 refine dY (cE rfl rfl rfl (c := false) rfl (by decide)) ?_
 simp only [pq]
 refine dY (cE rfl rfl rfl (c := false) rfl (by decide)) ?_
 simp only [pq]
 refine dY (cE rfl rfl rfl (c := false) rfl (by decide)) ?_
 refine bY ?_
 intro g9 c7 c8
 clear c8
 have c9 := St.tells a1 c7
 simp only [dE]
 refine aC ?_
 refine wlK a0 ?_
 refine aF ?_
 refine aH ?_
 refine a4 _ _ ?_
 refine aB ?_
 refine cO (k + 1) ?_
 refine dx ?_
 simp only [pq]
 refine aG ?_
 have c9 := St.drop c9 (.cons _ (List.Sublist.refl _))
 exact a2 _ _ _ (by omega) ⟨(k + 1), _, rfl, rfl, rfl, c9, (by omega), (by rw [hT, uW hp, if_neg (by omega), if_neg (fun h => h0 h.1)])⟩
 refine qS ?_
 refine wn a5 ?_
 refine aJ ?_
 refine sk fun h1 d0 => ?_
 refine aC ?_
 refine wn d0 ?_
 refine aP ?_
 try simp only [xt]
 refine bR (bK rfl (gD rfl)) ?_
 exact ⟨by unfold jG; rw [if_neg (by omega), hT, uW hp, if_pos c2], a1.gr.below⟩
 refine eT ?_
 refine wn a3 ?_
 refine aE fun h2 f0 => ?_
 refine aF ?_
 refine cV ?_
 refine hK5 _ _ ?_
 refine sk fun h3 d1 => ?_
 refine dy ?_
 refine wn d1 ?_
 refine aP ?_
 try simp only [xt]
 refine bR (bK rfl (gD rfl)) ?_
 exact ⟨by unfold jG; rw [if_neg (by omega), hT, RN (by omega)], a7.gr.below⟩
end Go.Proofs.YtilgpdpooildcaaGreatDoor
