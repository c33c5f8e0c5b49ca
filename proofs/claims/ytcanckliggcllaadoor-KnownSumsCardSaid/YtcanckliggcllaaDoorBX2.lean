/- Rules, plain laws and walks: S2 S3 S4 S5 S6 TY P10 T1a T1b T2 T3 S7 T4a T4b K1 S8 S9 S10 T0 BY D1 DG1 DG2 -/
import Derived.Test.YtcanckliggcllaaDoorBX1
import Derived.Maps.AppendAt
import Derived.Laws.IdiomCopy
import Derived.ArgAppend
import Derived.Lib.AppendZerosOnto
import Derived.Lib.Overlaps
import Derived.Laws.MakeOwn
import Derived.Lib.Bytealg
import Derived.OrdersHeld
import Derived.Test.YtcanckliggcllaaDoorCards
import Derived.Test.YtcanckliggcllaaDoorTie
import Derived.WalkKit
import Derived.ProofKit
import Derived.OpenShut
import Derived.Deep.DeepHandedRow
import Derived.Lib.LaidTab
import Derived.Lib.SmallJoins
import Derived.Deep.QuietTactic
import Derived.BigQuiet
import Derived.StillTailTactics
import Derived.Deep.MidRow
namespace Go.Proofs.YtcanckliggcllaaDoor
open Go.RowKit
set_option linter.unusedVariables false
structure Pl where
  name : By
  key : By
  value : By
  gone : Bool
structure Ft where
  kind : Int
  a : Int
  data : By
/-- A pair by value. -/
theorem Prs.get {F : Fz} {a : Option Addr} {n c : Nat} {l : List Pr} (h : Prs F (.slice a n c) l) {i : Nat} {p : Pr} (hp : l[i]? = some p) :
    ∃ b o, a = some ⟨b, o, none⟩ ∧ ∃ xa xc ya yc, cellF F b (o + i * 2) = some (.slice xa p.1.length xc) ∧ cellF F b (o + i * 2 + 1) = some (.slice ya p.2.length yc) ∧ Bs F (.slice xa p.1.length xc) p.1 ∧ Bs F (.slice ya p.2.length yc) p.2 := by
  obtain ⟨hi, rfl⟩ := List.getElem?_eq_some_iff.1 hp
  have hn := h.len
  obtain ⟨b, o, e, h1⟩ := Prs.at h (by omega)
  obtain ⟨x, y, c1, c2, r1, r2⟩ := h1 i hi
  obtain ⟨xa, xc, rfl, _⟩ := r1.shape
  obtain ⟨ya, yc, rfl, _⟩ := r2.shape
  exact ⟨b, o, e, xa, xc, ya, yc, c1, c2, r1, r2⟩
theorem Prs.mono {F F' : Fz} {v : Value} {l : List Pr} (h : Prs F v l) (hl : Le F F') : Prs F' v l := Sl.mono PrC.mono h hl
theorem Prs.oneCell {F : Fz} {v : Value} {l : List Pr} (h : Prs F v l) : v.oneCell' = true := by obtain ⟨a, c, rfl, _⟩ := Sl.shape h; rfl
theorem Sl.dropN {α : Type} {k : Nat} {R : Fz → List Value → α → Prop} {F : Fz} {b o n c : Nat} {l : List α} (h : Sl k R F (.slice (some ⟨b, o, none⟩) n c) l) {m n' c' : Nat} (hm : m ≤ n) (e1 : n - m = n') (e2 : c - m = c') : Sl k R F (.slice (some ⟨b, o + m * k, none⟩) n' c') (l.drop m) := by
  have hn := h.len
  subst e1; subst e2
  obtain ⟨el, h1, h2, h3⟩ := h
  obtain ⟨a', c0, q1, q2, q3, q4, q5⟩ := h1
  cases q1
  have hll := h2.len
  have e : (el.drop m).flatten = el.flatten.drop (m * k) := by
    clear h2 q5 hn hm q2 hll
    induction el generalizing m with
    | nil => simp
    | cons x el ih =>
      cases m with
      | zero => simp
      | succ m =>
        have hx := h3 x (by simp)
        simp only [List.drop_succ_cons, List.flatten_cons]
        rw [ih (fun y hy => h3 y (by simp [hy])), Nat.add_mul, Nat.one_mul, List.drop_append, hx, show m * k + k - k = m * k from by omega, List.drop_of_length_le (show x.length ≤ m * k + k by omega)]
        simp
  refine ⟨el.drop m, ⟨_, _, by rw [List.length_drop, hn], by rw [List.length_drop]; omega, by omega, (fun h => by cases h), ?_⟩, h2.drop m, fun x hx => h3 x (List.mem_of_mem_drop hx)⟩
  rw [e]
  rcases q5 with q5 | ⟨b', o', q6, q7⟩
  · left; rw [q5]; simp
  · right
    cases q6
    refine ⟨b, o + m * k, rfl, fun j u hu => ?_⟩
    rw [List.getElem?_drop] at hu
    have := q7 _ u hu
    rwa [← Nat.add_assoc] at this
/-- Tn: its cells. -/
def TnC (F : Fz) (cs : List Value) (p : (By × List Pr)) : Prop := ∃ a0 a1, cs = [a0, a1] ∧ Bs F a0 p.1 ∧ Prs F a1 p.2
theorem TnC.mono (F F' : Fz) (x : List Value) (p : (By × List Pr)) (hl : Le F F') (h : TnC F x p) : TnC F' x p := by
  obtain ⟨a0, a1, rfl, h0, h1⟩ := h
  exact ⟨a0, a1, rfl, h0.mono hl, h1.mono hl⟩
theorem TnC.oneCell {F : Fz} {cs : List Value} {p : (By × List Pr)} (h : TnC F cs p) : ∀ u ∈ cs, u.oneCell' = true := by
  obtain ⟨a0, a1, rfl, h0, h1⟩ := h
  intro u hu
  simp only [List.mem_cons, List.not_mem_nil, or_false] at hu
  rcases hu with rfl | rfl
  · exact h0.oneCell
  · exact h1.oneCell
abbrev Tns (F : Fz) (v : Value) (l : List (By × List Pr)) : Prop := Sl 2 TnC F v l
theorem Tns.mono {F F' : Fz} {v : Value} {l : List (By × List Pr)} (h : Tns F v l) (hl : Le F F') : Tns F' v l := Sl.mono TnC.mono h hl
theorem Tns.oneCell {F : Fz} {v : Value} {l : List (By × List Pr)} (h : Tns F v l) : v.oneCell' = true := by obtain ⟨a, c, rfl, _⟩ := Sl.shape h; rfl
theorem Tns.get {F : Fz} {a : Option Addr} {n c : Nat} {l : List (By × List Pr)} (h : Tns F (.slice a n c) l) {i : Nat} {p : (By × List Pr)} (hp : l[i]? = some p) :
    ∃ b o, a = some ⟨b, o, none⟩ ∧ ∃ x0 y0 x1 y1, cellF F b (o + i * 2) = some (.slice x0 p.1.length y0) ∧ cellF F b (o + i * 2 + 1) = some (.slice x1 p.2.length y1) ∧ Bs F (.slice x0 p.1.length y0) p.1 ∧ Prs F (.slice x1 p.2.length y1) p.2 := by
  obtain ⟨hi, rfl⟩ := List.getElem?_eq_some_iff.1 hp
  have hn := Sl.len h
  obtain ⟨b, o, e, h1⟩ := Sl.at h (by omega) (by omega)
  obtain ⟨cs, q1, ⟨a0, a1, rfl, h0, h1⟩, q3⟩ := h1 i hi
  obtain ⟨x0, y0, rfl, _⟩ := h0.shape
  obtain ⟨x1, y1, rfl, _⟩ := h1.shape
  exact ⟨b, o, e, x0, y0, x1, y1, by have := q3 0 (by simp); simpa [Nat.add_assoc] using this, by have := q3 1 (by simp); simpa [Nat.add_assoc] using this, h0, h1⟩
def TnV (F : Fz) (v : Value) (p : (By × List Pr)) : Prop := ∃ x0 y0 x1 y1, v = .agg #[.slice x0 p.1.length y0, .slice x1 p.2.length y1] ∧ Bs F (.slice x0 p.1.length y0) p.1 ∧ Prs F (.slice x1 p.2.length y1) p.2
theorem TnV.mono {F F' : Fz} {v : Value} {p : (By × List Pr)} (h : TnV F v p) (hl : Le F F') : TnV F' v p := by
  obtain ⟨x0, y0, x1, y1, rfl, h0, h1⟩ := h
  exact ⟨x0, y0, x1, y1, rfl, h0.mono hl, h1.mono hl⟩
/-- Wr: its cells. -/
def WrC (F : Fz) (cs : List Value) (p : Wr) : Prop := ∃ a0 a1 a2 a3, cs = [a0, a1, a2, a3] ∧ Bs F a0 p.name ∧ Bs F a1 p.key ∧ a2 = .bool p.gone ∧ Bs F a3 p.value
theorem WrC.mono (F F' : Fz) (x : List Value) (p : Wr) (hl : Le F F') (h : WrC F x p) : WrC F' x p := by
  obtain ⟨a0, a1, a2, a3, rfl, h0, h1, h2, h3⟩ := h
  exact ⟨a0, a1, a2, a3, rfl, h0.mono hl, h1.mono hl, h2, h3.mono hl⟩
theorem WrC.oneCell {F : Fz} {cs : List Value} {p : Wr} (h : WrC F cs p) : ∀ u ∈ cs, u.oneCell' = true := by
  obtain ⟨a0, a1, a2, a3, rfl, h0, h1, h2, h3⟩ := h
  intro u hu
  simp only [List.mem_cons, List.not_mem_nil, or_false] at hu
  rcases hu with rfl | rfl | rfl | rfl
  · exact h0.oneCell
  · exact h1.oneCell
  · rw [h2]; rfl
  · exact h3.oneCell
abbrev Wrs (F : Fz) (v : Value) (l : List Wr) : Prop := Sl 4 WrC F v l
theorem Wrs.mono {F F' : Fz} {v : Value} {l : List Wr} (h : Wrs F v l) (hl : Le F F') : Wrs F' v l := Sl.mono WrC.mono h hl
theorem Wrs.oneCell {F : Fz} {v : Value} {l : List Wr} (h : Wrs F v l) : v.oneCell' = true := by obtain ⟨a, c, rfl, _⟩ := Sl.shape h; rfl
theorem Wrs.get {F : Fz} {a : Option Addr} {n c : Nat} {l : List Wr} (h : Wrs F (.slice a n c) l) {i : Nat} {p : Wr} (hp : l[i]? = some p) :
    ∃ b o, a = some ⟨b, o, none⟩ ∧ ∃ x0 y0 x1 y1 x3 y3, cellF F b (o + i * 4) = some (.slice x0 p.name.length y0) ∧ cellF F b (o + i * 4 + 1) = some (.slice x1 p.key.length y1) ∧ cellF F b (o + i * 4 + 2) = some (.bool p.gone) ∧ cellF F b (o + i * 4 + 3) = some (.slice x3 p.value.length y3) ∧ Bs F (.slice x0 p.name.length y0) p.name ∧ Bs F (.slice x1 p.key.length y1) p.key ∧ Bs F (.slice x3 p.value.length y3) p.value := by
  obtain ⟨hi, rfl⟩ := List.getElem?_eq_some_iff.1 hp
  have hn := Sl.len h
  obtain ⟨b, o, e, h1⟩ := Sl.at h (by omega) (by omega)
  obtain ⟨cs, q1, ⟨a0, a1, a2, a3, rfl, h0, h1, h2, h3⟩, q3⟩ := h1 i hi
  obtain ⟨x0, y0, rfl, _⟩ := h0.shape
  obtain ⟨x1, y1, rfl, _⟩ := h1.shape
  subst h2
  obtain ⟨x3, y3, rfl, _⟩ := h3.shape
  exact ⟨b, o, e, x0, y0, x1, y1, x3, y3, by have := q3 0 (by simp); simpa [Nat.add_assoc] using this, by have := q3 1 (by simp); simpa [Nat.add_assoc] using this, by have := q3 2 (by simp); simpa [Nat.add_assoc] using this, by have := q3 3 (by simp); simpa [Nat.add_assoc] using this, h0, h1, h3⟩
def WrV (F : Fz) (v : Value) (p : Wr) : Prop := ∃ x0 y0 x1 y1 x3 y3, v = .agg #[.slice x0 p.name.length y0, .slice x1 p.key.length y1, .bool p.gone, .slice x3 p.value.length y3] ∧ Bs F (.slice x0 p.name.length y0) p.name ∧ Bs F (.slice x1 p.key.length y1) p.key ∧ Bs F (.slice x3 p.value.length y3) p.value
theorem WrV.mono {F F' : Fz} {v : Value} {p : Wr} (h : WrV F v p) (hl : Le F F') : WrV F' v p := by
  obtain ⟨x0, y0, x1, y1, x3, y3, rfl, h0, h1, h2⟩ := h
  exact ⟨x0, y0, x1, y1, x3, y3, rfl, h0.mono hl, h1.mono hl, h2.mono hl⟩
/-- Rd: its cells. -/
def RdC (F : Fz) (cs : List Value) (p : Rd) : Prop := ∃ a0 a1 a2 a3, cs = [a0, a1, a2, a3] ∧ Bs F a0 p.name ∧ Bs F a1 p.key ∧ a2 = .bool p.wide ∧ Bs F a3 p.last
theorem RdC.mono (F F' : Fz) (x : List Value) (p : Rd) (hl : Le F F') (h : RdC F x p) : RdC F' x p := by
  obtain ⟨a0, a1, a2, a3, rfl, h0, h1, h2, h3⟩ := h
  exact ⟨a0, a1, a2, a3, rfl, h0.mono hl, h1.mono hl, h2, h3.mono hl⟩
theorem RdC.oneCell {F : Fz} {cs : List Value} {p : Rd} (h : RdC F cs p) : ∀ u ∈ cs, u.oneCell' = true := by
  obtain ⟨a0, a1, a2, a3, rfl, h0, h1, h2, h3⟩ := h
  intro u hu
  simp only [List.mem_cons, List.not_mem_nil, or_false] at hu
  rcases hu with rfl | rfl | rfl | rfl
  · exact h0.oneCell
  · exact h1.oneCell
  · rw [h2]; rfl
  · exact h3.oneCell
abbrev Rds (F : Fz) (v : Value) (l : List Rd) : Prop := Sl 4 RdC F v l
theorem Rds.mono {F F' : Fz} {v : Value} {l : List Rd} (h : Rds F v l) (hl : Le F F') : Rds F' v l := Sl.mono RdC.mono h hl
theorem Rds.oneCell {F : Fz} {v : Value} {l : List Rd} (h : Rds F v l) : v.oneCell' = true := by obtain ⟨a, c, rfl, _⟩ := Sl.shape h; rfl
theorem Rds.get {F : Fz} {a : Option Addr} {n c : Nat} {l : List Rd} (h : Rds F (.slice a n c) l) {i : Nat} {p : Rd} (hp : l[i]? = some p) :
    ∃ b o, a = some ⟨b, o, none⟩ ∧ ∃ x0 y0 x1 y1 x3 y3, cellF F b (o + i * 4) = some (.slice x0 p.name.length y0) ∧ cellF F b (o + i * 4 + 1) = some (.slice x1 p.key.length y1) ∧ cellF F b (o + i * 4 + 2) = some (.bool p.wide) ∧ cellF F b (o + i * 4 + 3) = some (.slice x3 p.last.length y3) ∧ Bs F (.slice x0 p.name.length y0) p.name ∧ Bs F (.slice x1 p.key.length y1) p.key ∧ Bs F (.slice x3 p.last.length y3) p.last := by
  obtain ⟨hi, rfl⟩ := List.getElem?_eq_some_iff.1 hp
  have hn := Sl.len h
  obtain ⟨b, o, e, h1⟩ := Sl.at h (by omega) (by omega)
  obtain ⟨cs, q1, ⟨a0, a1, a2, a3, rfl, h0, h1, h2, h3⟩, q3⟩ := h1 i hi
  obtain ⟨x0, y0, rfl, _⟩ := h0.shape
  obtain ⟨x1, y1, rfl, _⟩ := h1.shape
  subst h2
  obtain ⟨x3, y3, rfl, _⟩ := h3.shape
  exact ⟨b, o, e, x0, y0, x1, y1, x3, y3, by have := q3 0 (by simp); simpa [Nat.add_assoc] using this, by have := q3 1 (by simp); simpa [Nat.add_assoc] using this, by have := q3 2 (by simp); simpa [Nat.add_assoc] using this, by have := q3 3 (by simp); simpa [Nat.add_assoc] using this, h0, h1, h3⟩
def RdV (F : Fz) (v : Value) (p : Rd) : Prop := ∃ x0 y0 x1 y1 x3 y3, v = .agg #[.slice x0 p.name.length y0, .slice x1 p.key.length y1, .bool p.wide, .slice x3 p.last.length y3] ∧ Bs F (.slice x0 p.name.length y0) p.name ∧ Bs F (.slice x1 p.key.length y1) p.key ∧ Bs F (.slice x3 p.last.length y3) p.last
theorem RdV.mono {F F' : Fz} {v : Value} {p : Rd} (h : RdV F v p) (hl : Le F F') : RdV F' v p := by
  obtain ⟨x0, y0, x1, y1, x3, y3, rfl, h0, h1, h2⟩ := h
  exact ⟨x0, y0, x1, y1, x3, y3, rfl, h0.mono hl, h1.mono hl, h2.mono hl⟩
/-- Cm: its cells. -/
def CmC (F : Fz) (cs : List Value) (p : Cm) : Prop := ∃ a0 a1, cs = [a0, a1] ∧ a0 = .int .i64 ((p.turn : Nat) : Int) ∧ Wrs F a1 p.writes
theorem CmC.mono (F F' : Fz) (x : List Value) (p : Cm) (hl : Le F F') (h : CmC F x p) : CmC F' x p := by
  obtain ⟨a0, a1, rfl, h0, h1⟩ := h
  exact ⟨a0, a1, rfl, h0, h1.mono hl⟩
theorem CmC.oneCell {F : Fz} {cs : List Value} {p : Cm} (h : CmC F cs p) : ∀ u ∈ cs, u.oneCell' = true := by
  obtain ⟨a0, a1, rfl, h0, h1⟩ := h
  intro u hu
  simp only [List.mem_cons, List.not_mem_nil, or_false] at hu
  rcases hu with rfl | rfl
  · rw [h0]; rfl
  · exact h1.oneCell
abbrev Cms (F : Fz) (v : Value) (l : List Cm) : Prop := Sl 2 CmC F v l
theorem Cms.mono {F F' : Fz} {v : Value} {l : List Cm} (h : Cms F v l) (hl : Le F F') : Cms F' v l := Sl.mono CmC.mono h hl
theorem Cms.oneCell {F : Fz} {v : Value} {l : List Cm} (h : Cms F v l) : v.oneCell' = true := by obtain ⟨a, c, rfl, _⟩ := Sl.shape h; rfl
theorem Cms.get {F : Fz} {a : Option Addr} {n c : Nat} {l : List Cm} (h : Cms F (.slice a n c) l) {i : Nat} {p : Cm} (hp : l[i]? = some p) :
    ∃ b o, a = some ⟨b, o, none⟩ ∧ ∃ x1 y1, cellF F b (o + i * 2) = some (.int .i64 ((p.turn : Nat) : Int)) ∧ cellF F b (o + i * 2 + 1) = some (.slice x1 p.writes.length y1) ∧ Wrs F (.slice x1 p.writes.length y1) p.writes := by
  obtain ⟨hi, rfl⟩ := List.getElem?_eq_some_iff.1 hp
  have hn := Sl.len h
  obtain ⟨b, o, e, h1⟩ := Sl.at h (by omega) (by omega)
  obtain ⟨cs, q1, ⟨a0, a1, rfl, h0, h1⟩, q3⟩ := h1 i hi
  subst h0
  obtain ⟨x1, y1, rfl, _⟩ := h1.shape
  exact ⟨b, o, e, x1, y1, by have := q3 0 (by simp); simpa [Nat.add_assoc] using this, by have := q3 1 (by simp); simpa [Nat.add_assoc] using this, h1⟩
def CmV (F : Fz) (v : Value) (p : Cm) : Prop := ∃ x1 y1, v = .agg #[.int .i64 ((p.turn : Nat) : Int), .slice x1 p.writes.length y1] ∧ Wrs F (.slice x1 p.writes.length y1) p.writes
theorem CmV.mono {F F' : Fz} {v : Value} {p : Cm} (h : CmV F v p) (hl : Le F F') : CmV F' v p := by
  obtain ⟨x1, y1, rfl, h0⟩ := h
  exact ⟨x1, y1, rfl, h0.mono hl⟩
/-- Stp: its cells. -/
def StpC (F : Fz) (cs : List Value) (p : Stp) : Prop := ∃ a0 a1 a2, cs = [a0, a1, a2] ∧ a0 = .int .i64 ((p.bit : Nat) : Int) ∧ a1 = .bool p.right ∧ Bs F a2 p.other
theorem StpC.mono (F F' : Fz) (x : List Value) (p : Stp) (hl : Le F F') (h : StpC F x p) : StpC F' x p := by
  obtain ⟨a0, a1, a2, rfl, h0, h1, h2⟩ := h
  exact ⟨a0, a1, a2, rfl, h0, h1, h2.mono hl⟩
theorem StpC.oneCell {F : Fz} {cs : List Value} {p : Stp} (h : StpC F cs p) : ∀ u ∈ cs, u.oneCell' = true := by
  obtain ⟨a0, a1, a2, rfl, h0, h1, h2⟩ := h
  intro u hu
  simp only [List.mem_cons, List.not_mem_nil, or_false] at hu
  rcases hu with rfl | rfl | rfl
  · rw [h0]; rfl
  · rw [h1]; rfl
  · exact h2.oneCell
abbrev Stps (F : Fz) (v : Value) (l : List Stp) : Prop := Sl 3 StpC F v l
theorem Stps.mono {F F' : Fz} {v : Value} {l : List Stp} (h : Stps F v l) (hl : Le F F') : Stps F' v l := Sl.mono StpC.mono h hl
theorem Stps.oneCell {F : Fz} {v : Value} {l : List Stp} (h : Stps F v l) : v.oneCell' = true := by obtain ⟨a, c, rfl, _⟩ := Sl.shape h; rfl
theorem Stps.get {F : Fz} {a : Option Addr} {n c : Nat} {l : List Stp} (h : Stps F (.slice a n c) l) {i : Nat} {p : Stp} (hp : l[i]? = some p) :
    ∃ b o, a = some ⟨b, o, none⟩ ∧ ∃ x2 y2, cellF F b (o + i * 3) = some (.int .i64 ((p.bit : Nat) : Int)) ∧ cellF F b (o + i * 3 + 1) = some (.bool p.right) ∧ cellF F b (o + i * 3 + 2) = some (.slice x2 p.other.length y2) ∧ Bs F (.slice x2 p.other.length y2) p.other := by
  obtain ⟨hi, rfl⟩ := List.getElem?_eq_some_iff.1 hp
  have hn := Sl.len h
  obtain ⟨b, o, e, h1⟩ := Sl.at h (by omega) (by omega)
  obtain ⟨cs, q1, ⟨a0, a1, a2, rfl, h0, h1, h2⟩, q3⟩ := h1 i hi
  subst h0
  subst h1
  obtain ⟨x2, y2, rfl, _⟩ := h2.shape
  exact ⟨b, o, e, x2, y2, by have := q3 0 (by simp); simpa [Nat.add_assoc] using this, by have := q3 1 (by simp); simpa [Nat.add_assoc] using this, by have := q3 2 (by simp); simpa [Nat.add_assoc] using this, h2⟩
def StpV (F : Fz) (v : Value) (p : Stp) : Prop := ∃ x2 y2, v = .agg #[.int .i64 ((p.bit : Nat) : Int), .bool p.right, .slice x2 p.other.length y2] ∧ Bs F (.slice x2 p.other.length y2) p.other
theorem StpV.mono {F F' : Fz} {v : Value} {p : Stp} (h : StpV F v p) (hl : Le F F') : StpV F' v p := by
  obtain ⟨x2, y2, rfl, h0⟩ := h
  exact ⟨x2, y2, rfl, h0.mono hl⟩
/-- Pl: its cells. -/
def PlC (F : Fz) (cs : List Value) (p : Pl) : Prop := ∃ a0 a1 a2 a3, cs = [a0, a1, a2, a3] ∧ Bs F a0 p.name ∧ Bs F a1 p.key ∧ Bs F a2 p.value ∧ a3 = .bool p.gone
theorem PlC.mono (F F' : Fz) (x : List Value) (p : Pl) (hl : Le F F') (h : PlC F x p) : PlC F' x p := by
  obtain ⟨a0, a1, a2, a3, rfl, h0, h1, h2, h3⟩ := h
  exact ⟨a0, a1, a2, a3, rfl, h0.mono hl, h1.mono hl, h2.mono hl, h3⟩
theorem PlC.oneCell {F : Fz} {cs : List Value} {p : Pl} (h : PlC F cs p) : ∀ u ∈ cs, u.oneCell' = true := by
  obtain ⟨a0, a1, a2, a3, rfl, h0, h1, h2, h3⟩ := h
  intro u hu
  simp only [List.mem_cons, List.not_mem_nil, or_false] at hu
  rcases hu with rfl | rfl | rfl | rfl
  · exact h0.oneCell
  · exact h1.oneCell
  · exact h2.oneCell
  · rw [h3]; rfl
abbrev Pls (F : Fz) (v : Value) (l : List Pl) : Prop := Sl 4 PlC F v l
theorem Pls.mono {F F' : Fz} {v : Value} {l : List Pl} (h : Pls F v l) (hl : Le F F') : Pls F' v l := Sl.mono PlC.mono h hl
theorem Pls.oneCell {F : Fz} {v : Value} {l : List Pl} (h : Pls F v l) : v.oneCell' = true := by obtain ⟨a, c, rfl, _⟩ := Sl.shape h; rfl
theorem Pls.get {F : Fz} {a : Option Addr} {n c : Nat} {l : List Pl} (h : Pls F (.slice a n c) l) {i : Nat} {p : Pl} (hp : l[i]? = some p) :
    ∃ b o, a = some ⟨b, o, none⟩ ∧ ∃ x0 y0 x1 y1 x2 y2, cellF F b (o + i * 4) = some (.slice x0 p.name.length y0) ∧ cellF F b (o + i * 4 + 1) = some (.slice x1 p.key.length y1) ∧ cellF F b (o + i * 4 + 2) = some (.slice x2 p.value.length y2) ∧ cellF F b (o + i * 4 + 3) = some (.bool p.gone) ∧ Bs F (.slice x0 p.name.length y0) p.name ∧ Bs F (.slice x1 p.key.length y1) p.key ∧ Bs F (.slice x2 p.value.length y2) p.value := by
  obtain ⟨hi, rfl⟩ := List.getElem?_eq_some_iff.1 hp
  have hn := Sl.len h
  obtain ⟨b, o, e, h1⟩ := Sl.at h (by omega) (by omega)
  obtain ⟨cs, q1, ⟨a0, a1, a2, a3, rfl, h0, h1, h2, h3⟩, q3⟩ := h1 i hi
  obtain ⟨x0, y0, rfl, _⟩ := h0.shape
  obtain ⟨x1, y1, rfl, _⟩ := h1.shape
  obtain ⟨x2, y2, rfl, _⟩ := h2.shape
  subst h3
  exact ⟨b, o, e, x0, y0, x1, y1, x2, y2, by have := q3 0 (by simp); simpa [Nat.add_assoc] using this, by have := q3 1 (by simp); simpa [Nat.add_assoc] using this, by have := q3 2 (by simp); simpa [Nat.add_assoc] using this, by have := q3 3 (by simp); simpa [Nat.add_assoc] using this, h0, h1, h2⟩
def PlV (F : Fz) (v : Value) (p : Pl) : Prop := ∃ x0 y0 x1 y1 x2 y2, v = .agg #[.slice x0 p.name.length y0, .slice x1 p.key.length y1, .slice x2 p.value.length y2, .bool p.gone] ∧ Bs F (.slice x0 p.name.length y0) p.name ∧ Bs F (.slice x1 p.key.length y1) p.key ∧ Bs F (.slice x2 p.value.length y2) p.value
theorem PlV.mono {F F' : Fz} {v : Value} {p : Pl} (h : PlV F v p) (hl : Le F F') : PlV F' v p := by
  obtain ⟨x0, y0, x1, y1, x2, y2, rfl, h0, h1, h2⟩ := h
  exact ⟨x0, y0, x1, y1, x2, y2, rfl, h0.mono hl, h1.mono hl, h2.mono hl⟩
/-- Ft: its cells. -/
def FtC (F : Fz) (cs : List Value) (p : Ft) : Prop := ∃ a0 a1 a2, cs = [a0, a1, a2] ∧ a0 = .int .i64 p.kind ∧ a1 = .int .i64 p.a ∧ Bs F a2 p.data
theorem FtC.mono (F F' : Fz) (x : List Value) (p : Ft) (hl : Le F F') (h : FtC F x p) : FtC F' x p := by
  obtain ⟨a0, a1, a2, rfl, h0, h1, h2⟩ := h
  exact ⟨a0, a1, a2, rfl, h0, h1, h2.mono hl⟩
theorem FtC.oneCell {F : Fz} {cs : List Value} {p : Ft} (h : FtC F cs p) : ∀ u ∈ cs, u.oneCell' = true := by
  obtain ⟨a0, a1, a2, rfl, h0, h1, h2⟩ := h
  intro u hu
  simp only [List.mem_cons, List.not_mem_nil, or_false] at hu
  rcases hu with rfl | rfl | rfl
  · rw [h0]; rfl
  · rw [h1]; rfl
  · exact h2.oneCell
abbrev Fts (F : Fz) (v : Value) (l : List Ft) : Prop := Sl 3 FtC F v l
theorem Fts.mono {F F' : Fz} {v : Value} {l : List Ft} (h : Fts F v l) (hl : Le F F') : Fts F' v l := Sl.mono FtC.mono h hl
theorem Fts.oneCell {F : Fz} {v : Value} {l : List Ft} (h : Fts F v l) : v.oneCell' = true := by obtain ⟨a, c, rfl, _⟩ := Sl.shape h; rfl
theorem Fts.get {F : Fz} {a : Option Addr} {n c : Nat} {l : List Ft} (h : Fts F (.slice a n c) l) {i : Nat} {p : Ft} (hp : l[i]? = some p) :
    ∃ b o, a = some ⟨b, o, none⟩ ∧ ∃ x2 y2, cellF F b (o + i * 3) = some (.int .i64 p.kind) ∧ cellF F b (o + i * 3 + 1) = some (.int .i64 p.a) ∧ cellF F b (o + i * 3 + 2) = some (.slice x2 p.data.length y2) ∧ Bs F (.slice x2 p.data.length y2) p.data := by
  obtain ⟨hi, rfl⟩ := List.getElem?_eq_some_iff.1 hp
  have hn := Sl.len h
  obtain ⟨b, o, e, h1⟩ := Sl.at h (by omega) (by omega)
  obtain ⟨cs, q1, ⟨a0, a1, a2, rfl, h0, h1, h2⟩, q3⟩ := h1 i hi
  subst h0
  subst h1
  obtain ⟨x2, y2, rfl, _⟩ := h2.shape
  exact ⟨b, o, e, x2, y2, by have := q3 0 (by simp); simpa [Nat.add_assoc] using this, by have := q3 1 (by simp); simpa [Nat.add_assoc] using this, by have := q3 2 (by simp); simpa [Nat.add_assoc] using this, h2⟩
def FtV (F : Fz) (v : Value) (p : Ft) : Prop := ∃ x2 y2, v = .agg #[.int .i64 p.kind, .int .i64 p.a, .slice x2 p.data.length y2] ∧ Bs F (.slice x2 p.data.length y2) p.data
theorem FtV.mono {F F' : Fz} {v : Value} {p : Ft} (h : FtV F v p) (hl : Le F F') : FtV F' v p := by
  obtain ⟨x2, y2, rfl, h0⟩ := h
  exact ⟨x2, y2, rfl, h0.mono hl⟩
def Pr2V (F : Fz) (v : Value) (p : Pr) : Prop := ∃ x0 y0 x1 y1, v = .agg #[.slice x0 p.1.length y0, .slice x1 p.2.length y1] ∧ Bs F (.slice x0 p.1.length y0) p.1 ∧ Bs F (.slice x1 p.2.length y1) p.2
theorem Pr2V.mono {F F' : Fz} {v : Value} {p : Pr} (h : Pr2V F v p) (hl : Le F F') : Pr2V F' v p := by
  obtain ⟨x0, y0, x1, y1, rfl, h0, h1⟩ := h
  exact ⟨x0, y0, x1, y1, rfl, h0.mono hl, h1.mono hl⟩
/-- A call that hands back a row of its own. -/
def GivesO {α : Type} (w : World) (F : Fz) (k : Nat) (R : Fz → List Value → α → Prop) (E : Nat) (l : List α) (e : Ending) (w' : World) : Prop := ∃ v F', e = .returned v ∧ Gr w F w' F' ∧ Own k R E w.heap.size w' F' v l
end Go.Proofs.YtcanckliggcllaaDoor
namespace Go.Proofs.YtcanckliggcllaaDoor
open Go.RowKit
set_option linter.unusedVariables false
/-- A slice that can be read in this world. -/
def SlW {α : Type} (w : World) (F : Fz) (k : Nat) (R : Fz → List Value → α → Prop) (v : Value) (l : List α) : Prop :=
  ∃ (el : List (List Value)) (a : Option Addr) (c : Nat), v = .slice a l.length c ∧ l.length ≤ c ∧ c ≤ maxLen ∧ (a = none → l = [] ∧ c = 0) ∧ AllR (R F) el l ∧ (∀ x ∈ el, x.length = k) ∧
    (el.flatten = [] ∨ ∃ b o, a = some ⟨b, o, none⟩ ∧ ∀ j u, el.flatten[j]? = some u → w.cell? ⟨b, o + j, none⟩ = some u)
section
variable {α : Type} {w w' : World} {F F' : Fz} {k : Nat} {R : Fz → List Value → α → Prop} {v : Value} {l : List α}
theorem Sl.toW (h : Sl k R F v l) (hs : Sat w F) : SlW w F k R v l := by
  obtain ⟨el, ⟨a, c, h1, h2, h3, h4, h5⟩, h6, h7⟩ := h
  refine ⟨el, a, c, h1, h2, h3, fun e => ⟨List.eq_nil_of_length_eq_zero (h4 e).1, (h4 e).2⟩, h6, h7, h5.imp id ?_⟩
  rintro ⟨b, o, e, hc⟩
  exact ⟨b, o, e, fun j u hu => hs.cell (hc j u hu)⟩
theorem Own.toW {E base : Nat} (h : Own k R E base w F v l) : SlW w F k R v l := by
  obtain ⟨el, ⟨e1, e2⟩, h2, h3⟩ := h.ex
  rcases e2 with ⟨rfl, h0⟩ | ⟨g, cap, cur, rfl, hb, hg, q1, q2, q3, q4⟩
  · have hl : l = [] := List.eq_nil_of_length_eq_zero h0
    subst hl
    exact ⟨el, none, 0, rfl, by simp, Nat.zero_le _, fun _ => ⟨rfl, rfl⟩, h2, h3, .inl (List.eq_nil_of_length_eq_zero (by simpa using e1))⟩
  · refine ⟨el, _, cap, rfl, q1, q2, (fun e => by cases e), h2, h3, .inr ⟨g, 0, rfl, fun j u hu => ?_⟩⟩
    rw [← q4, List.getElem?_take] at hu
    split at hu
    · rw [Nat.zero_add]; simp only [World.cell?, hg]; simpa using hu
    · cases hu
theorem flatten_drop {el : List (List Value)} (h3 : ∀ x ∈ el, x.length = k) (m : Nat) : (el.drop m).flatten = el.flatten.drop (m * k) := by
  induction el generalizing m with
  | nil => simp
  | cons x el ih =>
    cases m with
    | zero => simp
    | succ m =>
      have hx := h3 x (by simp)
      simp only [List.drop_succ_cons, List.flatten_cons]
      rw [ih (fun y hy => h3 y (by simp [hy])), Nat.add_mul, Nat.one_mul, List.drop_append, hx, show m * k + k - k = m * k from by omega, List.drop_of_length_le (show x.length ≤ m * k + k by omega)]
      simp
/-- s[m:], wherever it begins. -/
theorem SlW.dropN {a : Option Addr} {n c m : Nat} (h : SlW w F k R (.slice a n c) l) (hm : m ≤ n) : SlW w F k R (.slice (if c = m then a else a.map (·.add (m * k))) (n - m) (c - m)) (l.drop m) := by
  obtain ⟨el, a', c', h1, h2, h3, h4, h5, h6, h7⟩ := h
  cases h1
  refine ⟨el.drop m, _, c - m, by rw [List.length_drop], by rw [List.length_drop]; omega, by omega, fun e => ?_, h5.drop m, fun x hx => h6 x (List.mem_of_mem_drop hx), ?_⟩
  · cases a with
    | none => obtain ⟨e1, e2⟩ := h4 rfl; subst e1; simp at hm; simp [e2]
    | some a => split at e <;> cases e
  · rw [flatten_drop h6]
    by_cases hcm : c = m
    · left
      have hll := h5.len
      have : (l.drop m) = [] := List.drop_of_length_le (by omega)
      rw [List.drop_of_length_le]
      rw [flatten_len h6, hll]
      exact Nat.mul_le_mul_right k (by omega)
    · rw [if_neg hcm]
      refine h7.imp (fun e => by rw [e]; simp) ?_
      rintro ⟨b, o, e, hc⟩
      subst e
      refine ⟨b, o + m * k, by show some (Addr.add ⟨b, o, none⟩ (m * k)) = _; rw [Addr.add_mid], fun j u hu => ?_⟩
      rw [List.getElem?_drop] at hu
      have := hc _ u hu
      rwa [← Nat.add_assoc] at this
theorem SlW.len {a : Option Addr} {n c : Nat} (h : SlW w F k R (.slice a n c) l) : n = l.length := by
  obtain ⟨el, a', c', h1, _⟩ := h; cases h1; rfl
/-- Element i: its cells. -/
theorem SlW.get {a : Option Addr} {n c : Nat} (h : SlW w F k R (.slice a n c) l) (hk : 0 < k) {i : Nat} {p : α} (hp : l[i]? = some p) : ∃ b o cs, a = some ⟨b, o, none⟩ ∧ cs.length = k ∧ R F cs p ∧ w.rangeAt b (o + i * k) cs := by
  obtain ⟨el, a', c', h1, h2, h3, h4, h5, h6, h7⟩ := h
  cases h1
  obtain ⟨hi, rfl⟩ := List.getElem?_eq_some_iff.1 hp
  have hll := h5.len
  have hne : el.flatten ≠ [] := by
    intro e
    have := congrArg List.length e
    rw [flatten_len h6, hll] at this
    have := Nat.mul_pos (show 0 < l.length by omega) hk
    simp at *
    omega
  obtain ⟨b, o, e, hc⟩ := h7.resolve_left hne
  refine ⟨b, o, el[i]'(by omega), e, h6 _ (List.getElem_mem _), h5.get i (by omega) hi, fun j u hu => ?_⟩
  have hj : j < k := by
    have := (List.getElem?_eq_some_iff.1 hu).1
    rwa [h6 _ (List.getElem_mem _)] at this
  rw [Nat.add_assoc]
  exact hc _ _ (by rw [flatten_at h6 i (by omega) j hj]; exact hu)
end
section
variable {P : Program} {w0 w w' : World} {F0 F : Fz} {L : List Blk} {M : List RowP} {α : Type} {k base E : Nat} {R : Fz → List Value → α → Prop} {hR : ∀ F F' x p, Le F F' → R F x p → R F' x p} {v : Value} {l : List α}
/-- 'append(row, slice...)'. -/
theorem stAppendS {ops : Array Oper} {Q : Exit → Act → World → Prop} {a : Act} {rest : List Oper} {d : Option Tmp} {t T : TypeId} {x s : Operand} {pos : String} {after : Array Edge} {guard : Option (Nat × Bool)}
    {u : Value} {m : List α} {r : Nat} (S : St w0 F0 w F L M) (hw : Region.wanted ⟨d, .call ⟨.builtin .append, #[s, x], #[T, T]⟩, t, pos, after, guard⟩ (yielded ops a.tmps) = true)
    (inf : TypeInfo) (z : Value) (bytes : Nat) (ht : P.underlying T = some (.slice E)) (hi : P.info? E = some inf) (hz : inf.zero = some z) (hsize : inf.size = k) (hby : inf.bytes = bytes) (hzs : z.cells.size = k) (hsz : 0 < k)
    (hs : a.eval s = v) (hx : a.eval x = u) (hM : M[r]? = some (ownP k R hR E base v l)) (hu : SlW w F k R u m) (h1 : ∀ F cs p, R F cs p → ∀ u ∈ cs, u.oneCell' = true)
    (hb : w0.heap.size ≤ base) (hb2 : base ≤ w.heap.size) (h63 : l.length + m.length ≤ maxLen) (hbytes : (l.length + m.length) * bytes ≤ 140737488355328)
    (h : ∀ v' w', St w0 F0 w' F L (M.set r (ownP k R hR E base v' (l ++ m))) → (v' = .slice none 0 0 → l = [] ∧ m = []) → WL P ops Q rest (a.put d v') w') : WL P ops Q (⟨d, .call ⟨.builtin .append, #[s, x], #[T, T]⟩, t, pos, after, guard⟩ :: rest) a w := by
  obtain ⟨el, e1, e2, e3⟩ := (S.own hM).ex
  obtain ⟨nl, ad, c, rfl, q2, q3, q4, q5, q6, q7⟩ := hu
  have hnl := q5.len
  have hflat : nl.flatten.length = m.length * k := by rw [flatten_len q6, hnl]
  have hone : ∀ u ∈ nl.flatten, u.oneCell' = true := by
    intro u hu
    obtain ⟨y, hy, huy⟩ := List.mem_flatten.1 hu
    obtain ⟨i, hi', rfl⟩ := List.mem_iff_getElem.1 hy
    exact h1 _ _ _ (q5.get i hi' (by omega)) u huy
  cases ad with
  | none =>
    obtain ⟨hm0, hc0⟩ := q4 rfl
    subst hm0
    have hrun := run_append_owned_none (P := P) w base T t E inf k ht hi v l.length el.flatten e1
    refine do_ hw v ?_ (h v w ?_ (fun e => ?_))
    · simp only [execOp, resolve, invoke, builtin, Sem.run_bind, Sem.run_pure, Result.andThen_ok, List.map_toArray, List.map_cons, List.map_nil, hs, hx]
      simp only [List.length_nil, hc0]
      rw [hrun]; rfl
    · rw [List.append_nil]
      have : M.set r (ownP k R hR E base v l) = M := by
        obtain ⟨h1, h2⟩ := List.getElem?_eq_some_iff.1 hM
        rw [← h2]; simp
      rw [this]; exact S
    · refine ⟨?_, rfl⟩
      subst e
      obtain ⟨_, ⟨_, h0⟩ | ⟨_, _, _, h0, _⟩⟩ := e1
      · exact List.eq_nil_of_length_eq_zero h0
      · cases h0
  | some ad =>
    have hnews : ∀ j u, nl.flatten[j]? = some u → w.cell? (ad.add j) = some u := by
      intro j u hu
      rcases q7 with q7 | ⟨b, o, e, hc⟩
      · rw [q7] at hu; simp at hu
      · cases e; rw [Addr.add_mid]; exact hc j u hu
    obtain ⟨v', w', hrun, h2, h3, h4, h5⟩ := run_append_own_at (P := P) w base T t E inf z k bytes ht hi hz hsize hby hzs hsz v l.length el.flatten e1 ad m.length c nl.flatten hflat hnews hone h63 hbytes hb2
    have hf : ∀ g, v'.ownBlock = some g → v.ownBlock = some g ∨ w.heap.size ≤ g := by
      intro g hg
      rcases h5 with h5 | h5
      · left; rw [← h5]; exact hg
      · right; rw [h5] at hg; cases hg; exact Nat.le_refl _
    have hout : ∀ g, v'.ownBlock = some g → F g = none := by
      intro g hg
      rcases h5 with h5 | h5
      · exact (S.own hM).out g (by rw [← h5]; exact hg)
      · rw [h5] at hg; cases hg; exact S.sat.out (Nat.le_refl _)
    have hown : Own k R E base w' F v' (l ++ m) := by
      refine ⟨⟨el ++ nl, ?_, e2.append q5, fun y hy => ?_⟩, hout⟩
      · rw [List.flatten_append, List.length_append]; exact h2
      · rcases List.mem_append.1 hy with hy | hy
        · exact e3 y hy
        · exact q6 y hy
    refine do_ hw v' ?_ (h v' w' (S.grown hM hb h3 hown hf) (fun e => ?_))
    · simp only [execOp, resolve, invoke, builtin, Sem.run_bind, Sem.run_pure, Result.andThen_ok, List.map_toArray, List.map_cons, List.map_nil, hs, hx, hrun]
    · obtain ⟨h6, h7⟩ := h4.1 e
      subst h6
      obtain ⟨_, ⟨_, h0⟩ | ⟨_, _, _, h0, _⟩⟩ := e1
      · exact ⟨List.eq_nil_of_length_eq_zero h0, List.eq_nil_of_length_eq_zero h7⟩
      · cases h0
theorem allR_set {xs : List (List Value)} {ps : List α} (h : AllR (R F) xs ps) {i : Nat} {x : List Value} {p : α} (hx : R F x p) : AllR (R F) (xs.set i x) (ps.set i p) := by
  refine AllR.of_get (by simp [h.len]) fun j h1 h2 => ?_
  rw [List.getElem_set, List.getElem_set]
  split
  · exact hx
  · exact h.get j (by simpa using h1) (by simpa using h2)
theorem flatten_set {el : List (List Value)} (h3 : ∀ x ∈ el, x.length = k) {i : Nat} (hi : i < el.length) {x : List Value} (hx : x.length = k) : (el.set i x).flatten = splice el.flatten (i * k) x := by
  induction el generalizing i with
  | nil => simp at hi
  | cons y el ih =>
    have hy := h3 y (by simp)
    cases i with
    | zero =>
      unfold splice
      simp [hx]
      rw [List.drop_append, hy, Nat.sub_self, List.drop_of_length_le (by omega)]
      simp
    | succ i =>
      have ih' := ih (fun z hz => h3 z (by simp [hz])) (i := i) (by simpa using hi)
      simp only [List.set_cons_succ, List.flatten_cons]
      rw [ih']
      unfold splice
      rw [hx, Nat.add_mul, Nat.one_mul, List.take_append, List.drop_append, hy, show i * k + k - k = i * k from by omega, show i * k + k + k - k = i * k + k from by omega, List.take_of_length_le (show y.length ≤ i * k + k by omega), List.drop_of_length_le (show y.length ≤ i * k + k + k by omega)]
      simp
/-- 'row[i] = x'. -/
theorem stSetRow {ops : Array Oper} {Q : Exit → Act → World → Prop} {a : Act} {rest : List Oper} {d : Option Tmp} {t T : TypeId} {x y : Operand} {pos : String} {after : Array Edge} {guard : Option (Nat × Bool)} {r g cap i o n : Nat} {u : Value} {p : α} (S : St w0 F0 w F L M)
    (hw : Region.wanted ⟨d, .store T x y, t, pos, after, guard⟩ (yielded ops a.tmps) = true) (hx : a.eval x = .pointer (some ⟨g, o, none⟩)) (ho : o = i * k) (hy : a.eval y = u) (hM : M[r]? = some (ownP k R hR E base (.slice (some ⟨g, 0, none⟩) n cap) l)) (hil : i < l.length)
    (hi : (P.info? T).map (·.size) = some u.cells.size) (h1 : u.cells.all (·.oneCell') = true) (hk : u.cells.size = k) (hp : R F u.cells.toList p) (hb : w0.heap.size ≤ base)
    (h : ∀ w', St w0 F0 w' F L (M.set r (ownP k R hR E base (.slice (some ⟨g, 0, none⟩) n cap) (l.set i p))) → WL P ops Q rest (a.put d undef) w') : WL P ops Q (⟨d, .store T x y, t, pos, after, guard⟩ :: rest) a w := by
  obtain ⟨el, ⟨e1, e2⟩, h2, h3⟩ := (S.own hM).ex
  have hll := h2.len
  subst ho
  rcases e2 with ⟨e2, _⟩ | ⟨g', cap', cur, e2, q0, hg, q1, q2, q3, q4⟩
  · cases e2
  · injection e2 with e2 e2n e2c
    injection e2 with e2
    injection e2 with e2
    subst e2; subst e2n; subst e2c
    have hcl : cur.toList.length = cap * k := by simpa using q3
    have hkl : (i + 1) * k ≤ cap * k := Nat.mul_le_mul_right k (by omega)
    have hle : i * k + u.cells.size ≤ cur.toList.length := by rw [hcl, hk]; rw [Nat.add_mul] at hkl; omega
    have ht : w.there g (i * k) u.cells.size := by
      intro j hj
      have : i * k + j < cur.size := by simp at hle; omega
      exact ⟨by simp [World.cell?, hg, this], by simp [World.frozen?, hg]⟩
    have hst := storeV (P := P) (T := T) (v := u) hi ht h1
    have hm0 := (List.getElem?_eq_some_iff.1 hM)
    have hgrown : w.grownBy (w.setCells g (i * k) u.cells.toList) (Value.slice (some ⟨g, 0, none⟩) l.length cap).ownBlock := by
      have hb' := below_setCells (B := 0) (Nat.zero_le g) u.cells.toList (i * k) w w (Below.refl 0 w)
      exact ⟨hb'.os, hb'.tape, hb'.output, hb'.size, fun b hb1 hb2 => heap_setCells_past _ _ _ (fun e => hb2 (by rw [e]; rfl))⟩
    have hheap := heap_setCells (n := g) (T := E) (fr := (0, 0)) u.cells.toList (i * k) w cur.toList (by simpa using hg) (by simpa using hle)
    have hown : Own k R E base (w.setCells g (i * k) u.cells.toList) F (.slice (some ⟨g, 0, none⟩) l.length cap) (l.set i p) := by
      refine ⟨⟨el.set i u.cells.toList, ⟨?_, .inr ⟨g, cap, _, by rw [List.length_set], q0, hheap, by rw [List.length_set]; exact q1, q2, ?_, ?_⟩⟩, allR_set h2 hp, fun y hy => ?_⟩, (S.own hM).out⟩
      · rw [flatten_len (fun y hy => ?_), List.length_set, List.length_set, hll]
        rcases List.mem_or_eq_of_mem_set hy with hy | rfl
        · exact h3 y hy
        · simpa using hk
      · rw [List.size_toArray, splice_len (by simpa using hle), hcl]
      · rw [List.length_set, flatten_set h3 (by omega) (by simpa using hk), ← q4]
        unfold splice
        have hx' : u.cells.toList.length = k := by simpa using hk
        have hkk : i * k + k ≤ l.length * k := by have := Nat.mul_le_mul_right k (show i + 1 ≤ l.length by omega); rw [Nat.add_mul] at this; omega
        have hcl2 : cap * k ≤ cur.toList.length := by omega
        have hlk : l.length * k ≤ cap * k := Nat.mul_le_mul_right k q1
        apply List.ext_getElem?
        intro j
        simp only [List.getElem?_append, List.getElem?_take, List.getElem?_drop, List.length_take, List.length_append, hx']
        grind
      · rcases List.mem_or_eq_of_mem_set hy with hy | rfl
        · exact h3 y hy
        · simpa using hk
    refine doS hw (ex_store hx (by rw [hy]; exact hst)) (h _ (S.grown hM hb hgrown hown (fun g' hg' => .inl hg')))
end
end Go.Proofs.YtcanckliggcllaaDoor
namespace Go.Proofs.YtcanckliggcllaaDoor
open Go.RowKit
set_option linter.unusedVariables false
section
variable {P : Program} {w0 w w' : World} {F0 F : Fz} {L : List Blk} {M : List RowP} {α : Type} {k base E : Nat} {R : Fz → List Value → α → Prop} {hR : ∀ F F' x p, Le F F' → R F x p → R F' x p} {v : Value} {l : List α}
theorem St.other (S : St w0 F0 w F L M) {r : Nat} {p : RowP} (hM : M[r]? = some p) : ∀ s ∈ M.eraseIdx r, ∀ g, p.ob = some g → s.ob ≠ some g := by
  obtain ⟨hi, he⟩ := List.getElem?_eq_some_iff.1 hM
  intro s hs g hg hc
  obtain ⟨k', hk, rfl⟩ := List.mem_iff_getElem.1 hs
  have hp := List.pairwise_iff_getElem.1 S.rr
  rw [List.length_eraseIdx, if_pos hi] at hk
  rw [List.getElem_eraseIdx] at hc
  split at hc
  · rename_i hlt
    have := hp k' r (by omega) hi hlt g hc; rw [he] at this; exact this hg
  · rename_i hge
    have := hp r (k' + 1) hi (by omega) (by omega) g (by rw [he]; exact hg); exact this hc
theorem St.blkRow {g cap : Nat} {c : List Value} (S : St w0 F0 w F (⟨g, c, E⟩ :: L) M) {el : List (List Value)} (hc : c.take (l.length * k) = el.flatten) (h2 : AllR (R F) el l) (h3 : ∀ x ∈ el, x.length = k) (h4 : c.length = cap * k) (h5 : l.length ≤ cap) (h6 : cap ≤ maxLen) (hb : base ≤ g) : St w0 F0 w F L (ownP k R hR E base (.slice (some ⟨g, 0, none⟩) l.length cap) l :: M) := by
  have hb0 := S.blk ⟨g, c, E⟩ (by simp)
  have hbb := List.pairwise_cons.1 S.bb
  refine ⟨S.gr, fun x hx => S.blk x (by simp [hx]), fun r hr => ?_, hbb.2, fun r hr x hx => ?_, List.pairwise_cons.2 ⟨fun s hs b hb' hc' => ?_, S.rr⟩⟩
  · rcases List.mem_cons.1 hr with rfl | hr
    · refine ⟨⟨⟨el, ⟨?_, .inr ⟨g, cap, c.toArray, rfl, hb, hb0.1, h5, h6, by simpa using h4, by simpa using hc⟩⟩, h2, h3⟩, fun b e => ?_⟩, fun b e => ?_⟩
      · rw [flatten_len h3, h2.len]
      · cases e; exact hb0.2.1
      · cases e; exact ⟨S.blk_lt (x := ⟨g, c, E⟩) (by simp), hb0.2⟩
    · exact S.row r hr
  · rcases List.mem_cons.1 hr with rfl | hr
    · intro e; cases e; exact hbb.1 x hx rfl
    · exact S.rb r hr x (by simp [hx])
  · cases hb'; exact S.rb s hs ⟨g, c, E⟩ (by simp) hc'
/-- 'make([]T, n)'. -/
theorem stMake {ops : Array Oper} {Q : Exit → Act → World → Prop} {a : Act} {rest : List Oper} {d : Option Tmp} {t T E : TypeId} {x y : Operand} {pos : String} {after : Array Edge} {guard : Option (Nat × Bool)} {n m : Nat} (S : St w0 F0 w F L M)
    (hw : Region.wanted ⟨d, .makeSlice T x y, t, pos, after, guard⟩ (yielded ops a.tmps) = true) (inf : TypeInfo) (z : Value) (bytes : Nat) (ht : P.underlying T = some (.slice E)) (hi : P.info? E = some inf) (hz : inf.zero = some z) (hsize : inf.size = k) (hby : inf.bytes = bytes)
    (hx : a.eval x = .int .i64 (n : Int)) (hy : a.eval y = .int .i64 (m : Int)) (hnm : n ≤ m) (hb : bytes * m ≤ 281474976710656) (h63 : m ≤ 9223372036854775807)
    (h : ∀ g w', St w0 F0 w' F (⟨g, (madeCells z.cells (m * k)).toList, E⟩ :: L) M → WL P ops Q rest (a.put d (.slice (some ⟨g, 0, none⟩) n m)) w') : WL P ops Q (⟨d, .makeSlice T x y, t, pos, after, guard⟩ :: rest) a w := by
  subst hsize
  subst hby
  have hb' : (inf.bytes : Int) * (m : Int) ≤ 281474976710656 := by
    have h : ((inf.bytes * m : Nat) : Int) ≤ 281474976710656 := by omega
    rwa [Int.natCast_mul] at h
  have hrun := run_make (P := P) w T E inf z ht hi hz .i64 .i64 (n : Int) (m : Int) (by omega) (by omega) hb' (by omega)
  simp only [Int.toNat_natCast] at hrun
  refine do_ hw _ ?_ (h _ _ (S.alloc _ _))
  simp only [execOp, hx, hy, Sem.run_bind, hrun, Result.andThen_ok, Sem.run_pure]
end
end Go.Proofs.YtcanckliggcllaaDoor
namespace Go.Proofs.YtcanckliggcllaaDoor
open Go.RowKit
section
variable {k i n : Nat} {c zs vs : List Value} {el : List (List Value)}
variable (h3 : ∀ x ∈ el, x.length = k) (hc : c.take (n * k) = el.flatten)
include h3 hc
end
theorem St.src {w0 w : World} {F0 F : Fz} {L : List Blk} {M : List RowP} (S : St w0 F0 w F L M) {i n : Nat} {c : List Value} {T : TypeId} (hL : L[i]? = some ⟨n, c, T⟩) (j m : Nat) : ∀ q u, ((c.drop j).take m)[q]? = some u → w.cell? ((⟨n, j, none⟩ : Addr).add q) = some u := by
  intro q u hu
  rw [Addr.add_mid]
  rw [List.getElem?_take] at hu
  split at hu
  · rw [List.getElem?_drop] at hu
    exact S.cell hL hu
  · cases hu
end Go.Proofs.YtcanckliggcllaaDoor
namespace Go.Proofs.YtcanckliggcllaaDoor
open Go.RowKit
set_option linter.unusedVariables false
section
variable {P : Program} {ρ : Operand → Value} {w : World} {d : Option Tmp} {t X Y : TypeId} {pos : String} {after : Array Edge} {guard : Option (Nat × Bool)} {x y : Operand} {l m : List UInt8}
theorem ex_convert {v r : Value} (hx : ρ x = v) (h : (convert X Y v).run P w = .ok r w) : (execOp ρ ⟨d, .convert X Y x, t, pos, after, guard⟩).run P w = .ok (.value r) w := by
  subst hx
  simp only [execOp, Sem.run_bind, h, Result.andThen_ok, Sem.run_pure]
end
section
variable {P : Program} {ρ : Operand → Value} {w : World} {d : Option Tmp} {t X T : TypeId} {pos : String} {after : Array Edge} {guard : Option (Nat × Bool)} {x y : Operand} {k : IntKind} {m n r : Int}
end
/-- A block of bytes that is done with. -/
theorem bs_of_block {F : Fz} {n : Nat} {c : List Value} {l : List UInt8} (h : ∀ j v, c[j]? = some v → cellF F n j = some v) (e : c = l.map bv) (hl : l.length ≤ maxLen) : Bs F (.slice (some ⟨n, 0, none⟩) l.length l.length) l := by
  subst e
  exact Rw.of_cells (Nat.le_refl _) hl fun j u hu => by rw [Nat.zero_add]; exact h j u hu
end Go.Proofs.YtcanckliggcllaaDoor
namespace Go.Proofs.YtcanckliggcllaaDoor
open Go.RowKit
set_option maxRecDepth 100000
theorem nagg_3 (w : World) : (isAgg 3).run Tryd.prog w = .ok false w := by kernel_rfl
theorem sizeof_3 (w : World) : (sizeOf 3).run Tryd.prog w = .ok 1 w := by kernel_rfl
theorem nagg_5 (w : World) : (isAgg 5).run Tryd.prog w = .ok false w := by kernel_rfl
theorem size_5 : (Tryd.prog.info? 5).map (·.size) = some 1 := by kernel_rfl
theorem sizeof_5 (w : World) : (sizeOf 5).run Tryd.prog w = .ok 1 w := by kernel_rfl
theorem ent_15 (vs : Array Value) (w : World) : (callFunc 15 vs).run Tryd.prog w = .ok (.enter 15 vs) w := by kernel_rfl
theorem ent_16 (vs : Array Value) (w : World) : (callFunc 16 vs).run Tryd.prog w = .ok (.enter 16 vs) w := by kernel_rfl
theorem ent_17 (vs : Array Value) (w : World) : (callFunc 17 vs).run Tryd.prog w = .ok (.enter 17 vs) w := by kernel_rfl
theorem ent_36 (vs : Array Value) (w : World) : (callFunc 36 vs).run Tryd.prog w = .ok (.enter 36 vs) w := by kernel_rfl
theorem ent_53 (vs : Array Value) (w : World) : (callFunc 53 vs).run Tryd.prog w = .ok (.enter 53 vs) w := by kernel_rfl
theorem ent_64 (vs : Array Value) (w : World) : (callFunc 64 vs).run Tryd.prog w = .ok (.enter 64 vs) w := by kernel_rfl
end Go.Proofs.YtcanckliggcllaaDoor
namespace Go.Proofs.YtcanckliggcllaaDoor
open Go.RowKit
end Go.Proofs.YtcanckliggcllaaDoor
namespace Go.Proofs.YtcanckliggcllaaDoor
open Go.RowKit
set_option maxRecDepth 100000
set_option linter.unusedVariables false
set_option linter.unusedSimpArgs false
end Go.Proofs.YtcanckliggcllaaDoor
namespace Go.Proofs.YtcanckliggcllaaDoor
open Go.RowKit
set_option maxRecDepth 100000
set_option linter.unusedVariables false
set_option linter.unusedSimpArgs false
end Go.Proofs.YtcanckliggcllaaDoor
namespace Go.Proofs.YtcanckliggcllaaDoor
open Go.RowKit
set_option maxRecDepth 100000
set_option linter.unusedVariables false
set_option linter.unusedSimpArgs false
end Go.Proofs.YtcanckliggcllaaDoor
namespace Go.Proofs.YtcanckliggcllaaDoor
open Go.RowKit
set_option maxRecDepth 100000
set_option linter.unusedVariables false
set_option linter.unusedSimpArgs false
/-- A finding. -/
def FndV (F : Fz) (u : Value) (o : Option By) : Prop := ∃ a c, u = .agg #[.bool o.isSome, .slice a (o.getD []).length c] ∧ Bs F (.slice a (o.getD []).length c) (o.getD [])
theorem FndV.mono {F F' : Fz} {u : Value} {o : Option By} (h : FndV F u o) (hl : Le F F') : FndV F' u o := by
  obtain ⟨a, c, rfl, h1⟩ := h; exact ⟨a, c, rfl, h1.mono hl⟩
end Go.Proofs.YtcanckliggcllaaDoor
namespace Go.Proofs.YtcanckliggcllaaDoor
open Go.RowKit
set_option linter.unusedVariables false
section
variable {α : Type} {k E base : Nat} {R : Fz → List Value → α → Prop} {w : World} {F : Fz} {l : List α}
theorem Own.at {a : Option Addr} {n c : Nat} (h : Own k R E base w F (.slice a n c) l) {i : Nat} {p : α} (hp : l[i]? = some p) : ∃ g cs, a = some ⟨g, 0, none⟩ ∧ cs.length = k ∧ R F cs p ∧ w.rangeAt g (i * k) cs := by
  obtain ⟨hi, rfl⟩ := List.getElem?_eq_some_iff.1 hp
  obtain ⟨el, ⟨e1, e2⟩, h2, h3⟩ := h.ex
  have hll := h2.len
  rcases e2 with ⟨e2, h0⟩ | ⟨g, cap, cur, e2, q0, hg, q1, q2, q3, q4⟩
  · omega
  · injection e2 with e2
    refine ⟨g, el[i]'(by omega), e2, h3 _ (List.getElem_mem _), h2.get i (by omega) hi, fun j u hu => ?_⟩
    have hj : j < k := by
      have := (List.getElem?_eq_some_iff.1 hu).1
      rwa [h3 _ (List.getElem_mem _)] at this
    have hf := flatten_at h3 i (by omega) j hj
    rw [← q4, List.getElem?_take] at hf
    rw [← hf] at hu
    split at hu
    · simp only [World.cell?, hg]; simpa using hu
    · cases hu
theorem Own.len {a : Option Addr} {n c : Nat} (h : Own k R E base w F (.slice a n c) l) : n = l.length := by
  obtain ⟨a', c', e, _⟩ := h.shape
  injection e
end
/-! A block that is made in a region that draws its order. -/
def NewAt (W : World) (cs : List Value) (T : TypeId) (v : Value) (w : World) : Prop := ∃ n, v = .pointer (some ⟨n, 0, none⟩) ∧ W.heap.size ≤ n ∧ w.heap[n]? = some (.cells cs.toArray T (0, 0))
theorem NewAt.stable (W : World) (cs : List Value) (T : TypeId) : ∀ v w w', NewAt W cs T v w → Below w.heap.size w w' → NewAt W cs T v w' := by
  rintro v w w' ⟨n, h1, h2, h3⟩ hb
  exact ⟨n, h1, h2, heap_kept hb h3⟩
end Go.Proofs.YtcanckliggcllaaDoor
namespace Go.Proofs.YtcanckliggcllaaDoor
open Go.RowKit
set_option maxRecDepth 100000
set_option linter.unusedVariables false
set_option linter.unusedSimpArgs false
end Go.Proofs.YtcanckliggcllaaDoor
namespace Go.Proofs.YtcanckliggcllaaDoor
open Go.RowKit
set_option maxRecDepth 100000
set_option linter.unusedVariables false
set_option linter.unusedSimpArgs false
theorem PrC.one (F : Fz) (cs : List Value) (p : Pr) (h : PrC F cs p) : ∀ u ∈ cs, u.oneCell' = true := h.oneCell
def PrsE (r : List Pr) (e : Int) (F : Fz) (u : Value) : Prop := ∃ x, u = .tuple #[x, .int .i64 e] ∧ Prs F x r
theorem PrsE.mono {F F' : Fz} {u : Value} {r : List Pr} {e : Int} (h : PrsE r e F u) (hl : Le F F') : PrsE r e F' u := by
  obtain ⟨x, rfl, h1⟩ := h; exact ⟨x, rfl, h1.mono hl⟩
end Go.Proofs.YtcanckliggcllaaDoor
namespace Go.Proofs.YtcanckliggcllaaDoor
open Go.RowKit
set_option maxRecDepth 100000
set_option linter.unusedVariables false
set_option linter.unusedSimpArgs false
end Go.Proofs.YtcanckliggcllaaDoor
namespace Go.Proofs.YtcanckliggcllaaDoor
open Go.RowKit
set_option linter.unusedVariables false
section
variable {α β : Type} {k k2 E E2 base base2 : Nat} {R : Fz → List Value → α → Prop} {R2 : Fz → List Value → β → Prop} {w0 W w w' : World} {F0 F F' : Fz} {L : List Blk} {M : List RowP} {v v2 : Value} {l : List α} {l2 : List β}
/-- What a call has made that is a row of its own. -/
def MadeO {α : Type} (W : World) (F : Fz) (k : Nat) (R : Fz → List Value → α → Prop) (E : Nat) (l : List α) (v : Value) (w : World) : Prop := ∃ F', Gr W F w F' ∧ Own k R E W.heap.size w F' v l
theorem MadeO.stable (hR : ∀ F F' x p, Le F F' → R F x p → R F' x p) (W : World) (F : Fz) (k E : Nat) (l : List α) : Stable (MadeO W F k R E l) :=
  fun v w w' ⟨F', g, h⟩ hb => ⟨F', g.trans (Gr.of_below g.sat hb), h.gr hR g.sat (Gr.of_below g.sat hb)⟩
end
section
variable {w : World} {F : Fz} {n : Nat} {cs : List Value} {T : TypeId}
end
theorem gives_of_own {P : Program} {f : FuncId} {vs : Array Value} {α : Type} {k E : Nat} {R : Fz → List Value → α → Prop} (hR : ∀ F F' x p, Le F F' → R F x p → R F' x p) {w : World} {F : Fz} {l : List α} (h : Calls P f vs w (GivesO w F k R E l)) : Calls P f vs w (Gives w F fun F' u => Sl k R F' u l) :=
  h.mono fun e w' ⟨v, F', he, g, ho⟩ => by
    obtain ⟨F2, g2, _, h2⟩ := ho.freeze hR g (Nat.le_refl _)
    exact ⟨v, F2, he, g2, h2⟩
end Go.Proofs.YtcanckliggcllaaDoor
namespace Go.Proofs.YtcanckliggcllaaDoor
open Go.RowKit
set_option linter.unusedVariables false
section
variable {P : Program} {ops : Array Oper} {md : Region.Mode} {C : World → Prop} {Sp : Nat → OpSpec}
/-- The walk in an order of our own. -/
def wpGP (P : Program) (md : Region.Mode) (ops : Array Oper) (C : World → Prop) (Sp : Nat → OpSpec) (Lq : Act → Vals → Prop) : List (Nat × Oper) → Act → Vals → Prop
  | [], a, Vs => Lq a Vs
  | (k, o) :: l, a, Vs => if Region.wanted o (yielded ops a.tmps) = true then ∃ S, Ob P md ops C Sp k o a Vs S ∧ ∀ v, S v → wpGP P md ops C Sp Lq l (a.put o.dst v) (next (Sp k) Vs k v) else wpGP P md ops C Sp Lq l (a.put o.dst undef) Vs
end
structure GP (P : Program) (md : Region.Mode) (ops : Array Oper) (C : World → Prop) (Sp : Nat → OpSpec) (Lq : Act → Vals → Prop) (l : List (Nat × Oper)) (a : Act) (Vs : Vals) : Prop where
  out : wpGP P md ops C Sp Lq l a Vs
section
variable {P : Program} {ops : Array Oper} {md : Region.Mode} {C : World → Prop} {Sp : Nat → OpSpec} {Lq : Act → Vals → Prop} {o : Oper} {l : List (Nat × Oper)} {k : Nat} {a : Act} {Vs : Vals}
end
/-! Late. -/
/-- The store, behind which nothing of the region is left to look at the memory. -/
structure LT (P : Program) (ops : Array Oper) (Q : Exit → Act → World → Prop) (os : Oper) (rest : List Oper) (a : Act) (w : World) : Prop where
  out : ∃ w', os.guard = none ∧ os.dst = none ∧ (execOp a.eval os).run P w = .ok .skip w' ∧ wpList P ops Q rest a w'
section
variable {P : Program} {ops : Array Oper} {md : Region.Mode} {C : World → Prop} {Sp : Nat → OpSpec}
def wpAnyH (P : Program) (md : Region.Mode) (ops : Array Oper) (C : World → Prop) (Sp : Nat → OpSpec) (s : Nat) (L E : Array Bool → Act → Vals → Prop) : Nat → Array Bool → Act → Vals → Prop
  | 0, listed, a, Vs => L listed a Vs
  | f + 1, listed, a, Vs => Region.ready md ops listed ≠ [] ∧ ∀ i ∈ Region.ready md ops listed, (i ≠ s → gOp P md ops C Sp i (wpAnyH P md ops C Sp s L E f (listed.setIfInBounds i true)) a Vs) ∧ (i = s → f = 0 ∧ E listed a Vs)
end
section
variable {P : Program} {ops : Array Oper} {md : Region.Mode} {C : World → Prop} {Sp : Nat → OpSpec}
end
section
variable {w : World} {F : Fz} {n : Nat} {cs : List Value} {T : TypeId}
end
end Go.Proofs.YtcanckliggcllaaDoor
namespace Go.Proofs.YtcanckliggcllaaDoor
open Go.RowKit
set_option linter.unusedVariables false
structure HL (P : Program) (ops : Array Oper) (Q : Exit → Act → World → Prop) (F : Fz) (fuel : Nat) (listed : Array Bool) (a : Act) (w : World) : Prop where
  out : Go.wpAnyH P .any ops Q (fun w => Sat w F) fuel listed a w
section
variable {P : Program} {ops : Array Oper} {Q : Exit → Act → World → Prop} {F : Fz} {fuel : Nat} {listed : Array Bool} {a : Act} {w : World} {o : Oper}
theorem Oper.wp_exit {K K' : Act → World → Prop} (hh : o.wp P a w K (Exit.then K' Q)) : o.wp P a w K Q := by
  unfold Oper.wp at *
  generalize (execOp a.eval o).run P w = r at *
  cases r with
  | ok n w' =>
    cases n <;> simp only [Oper.upon] at hh ⊢ <;> try exact hh
  | halt x w' => cases x <;> exact hh
end
end Go.Proofs.YtcanckliggcllaaDoor
namespace Go.Proofs.YtcanckliggcllaaDoor
open Go.ChangeShapes Go.WideShapes Go.ChangeAt Go.RowKit Go.Deep
set_option maxRecDepth 100000
theorem laidVars_at {P : Program} {W : World} : ∀ {l : List (String × DataW Unit)} {ps : List MemPlace}, DataW.LaidVars P W l ps → ∀ (i : Nat) (n : String) (d : DataW Unit), l[i]? = some (n, d) →
    ∃ g t cs fuel p, P.globalNamed n = some g ∧ (P.globals[g]?).map (·.type) = some t ∧ W.var? P n = some cs ∧ DataW.trod (fun _ => ()) P W 0 (fun _ => true) false fuel t cs.toList = some (d, p)
  | [], _, _, i, n, d, hi => by simp at hi
  | (n', d') :: r, ps, h, i, n, d, hi => by
    obtain ⟨g, t, cs, fuel, p, q, h1, h2, h3, h4, h5, h6⟩ := h
    cases i with
    | zero =>
      simp only [List.getElem?_cons_zero, Option.some.injEq, Prod.mk.injEq] at hi
      obtain ⟨rfl, rfl⟩ := hi
      exact ⟨g, t, cs, fuel, p, h1, h2, h3, h4⟩
    | succ i => exact laidVars_at h5 i n d (by simpa using hi)
theorem tabIs_at {P : Program} {W : World} {l : List (String × DataW Unit)} (h : laidMet P l W) (i : Nat) (name : String) (k : IntKind) (zs : List Int) {g : Nat} {t e : TypeId} {n : Nat}
    (hi : l[i]? = some (name, Lib.tabData k zs))
    (hg : P.globalNamed name = some g) (hty : (P.globals[g]?).map (·.type) = some t) (ht : P.underlying t = some (.array n e)) (he : P.underlying e = some (.int k)) (hce : P.cellsOf e = 1) (hct : P.cellsOf t = n) : Lib.TabIs P W name k zs := by
  obtain ⟨ps, hv, _, _⟩ := h
  obtain ⟨g', t', cs, fuel, p, hg', ht', hvar, hd⟩ := laidVars_at hv i name _ hi
  obtain rfl := Option.some.inj (hg.symm.trans hg')
  obtain rfl := Option.some.inj (hty.symm.trans ht')
  unfold Lib.TabIs
  rw [hvar, ← Lib.cells_of_tab ht he hce hct hd]
end Go.Proofs.YtcanckliggcllaaDoor
namespace Go.Proofs.YtcanckliggcllaaDoor
open Go.RowKit
set_option maxRecDepth 100000
set_option linter.unusedVariables false
set_option linter.unusedSimpArgs false
def ByC (F : Fz) (cs : List Value) (b : UInt8) : Prop := cs = [bv b]
theorem ByC.mono (F F' : Fz) (x : List Value) (p : UInt8) (hl : Le F F') (h : ByC F x p) : ByC F' x p := h
theorem bv_one (b : UInt8) : ∀ u ∈ [bv b], u.oneCell' = true := by intro u hu; rw [List.mem_singleton.1 hu]; rfl
theorem ByC.one (F : Fz) (cs : List Value) (p : UInt8) (h : ByC F cs p) : ∀ u ∈ cs, u.oneCell' = true := by rw [h]; exact bv_one p
theorem bytes_flat : ∀ l : By, ((l.map fun b => [bv b]).flatten) = l.map bv
  | [] => rfl
  | b :: l => by simp [bytes_flat l]
theorem allR_bytes (F : Fz) : ∀ l : By, AllR (ByC F) (l.map fun b => [bv b]) l
  | [] => trivial
  | _ :: l => ⟨rfl, allR_bytes F l⟩
theorem bytes_of : ∀ {xs : List (List Value)} {l : By} {F : Fz}, AllR (ByC F) xs l → xs.flatten = l.map bv
  | [], [], _, _ => rfl
  | x :: xs, b :: l, F, h => by rw [List.flatten_cons, h.1, bytes_of h.2]; rfl
theorem Bs.sl {F : Fz} {v : Value} {l : By} (h : Bs F v l) : Sl 1 ByC F v l := ⟨l.map fun b => [bv b], by rw [bytes_flat]; exact h, allR_bytes F l, by simp⟩
theorem bs_of_sl {F : Fz} {v : Value} {l : By} (h : Sl 1 ByC F v l) : Bs F v l := by
  obtain ⟨xs, h1, h2, _⟩ := h
  rw [bytes_of h2] at h1
  exact h1
theorem conv_b8 (z : Nat) (w : World) : (convert 3 5 (.int .i64 (z : Nat))).run Tryd.prog w = .ok (bv (b8 z)) w := by
  have : (convert 3 5 (.int .i64 (z : Nat))).run Tryd.prog w = .ok (.int .u8 (IntKind.u8.wrap (z : Int))) w := by kernel_rfl
  rw [this]
  have e : IntKind.u8.wrap (z : Int) = ((b8 z).toNat : Int) := by
    rw [show IntKind.u8.wrap (z : Int) = (z : Int) % 256 from rfl]
    simp [b8]
  rw [e]; rfl
theorem conv_int (b : UInt8) (w : World) : (convert 5 3 (bv b)).run Tryd.prog w = .ok (.int .i64 ((b.toNat : Nat) : Int)) w := by
  have : (convert 5 3 (bv b)).run Tryd.prog w = .ok (.int .i64 (IntKind.i64.wrap (b.toNat : Int))) w := by kernel_rfl
  rw [this, wrap64_in (by omega) (by have := UInt8.toNat_lt b; omega)]
theorem Bs.get {F : Fz} {a : Option Addr} {n c : Nat} {l : By} (h : Bs F (.slice a n c) l) {i : Nat} {b : UInt8} (hb : l[i]? = some b) : ∃ g o, a = some ⟨g, o, none⟩ ∧ cellF F g (o + i * 1) = some (bv b) := by
  obtain ⟨a', c', e, _, _, _, h5⟩ := h
  injection e with e1 _ _
  subst e1
  rcases h5 with h5 | ⟨g, o, e, h6⟩
  · rw [List.map_eq_nil_iff] at h5
    subst h5; cases hb
  · exact ⟨g, o, e, by rw [Nat.mul_one]; exact h6 i (bv b) (by rw [List.getElem?_map, hb]; rfl)⟩
abbrev Bys (F : Fz) (v : Value) (l : By) : Prop := Sl 1 ByC F v l
end Go.Proofs.YtcanckliggcllaaDoor
namespace Go.Proofs.YtcanckliggcllaaDoor
open Go.RowKit
set_option maxRecDepth 100000
set_option linter.unusedVariables false
/-- A lane as the number that a cell holds. -/
def lane (a : BitVec 64) : Int := (a.toNat : Int)
theorem lane_ofInt (a : BitVec 64) : BitVec.ofInt IntKind.u64.bits (lane a) = a := by
  show BitVec.ofInt 64 (a.toNat : Int) = a
  simp
theorem lane_wrap (a : BitVec 64) : IntKind.u64.wrap ((BitVec.toNat a : Nat) : Int) = lane a := by
  have := a.isLt
  unfold lane IntKind.wrap
  simp only [IntKind.signed, Bool.false_and, Bool.false_eq_true, if_false, IntKind.bits]
  omega
theorem lane_xor (a b : BitVec 64) : bits .xor .u64 (lane a) (lane b) = lane (a ^^^ b) := by
  unfold bits
  simp only [lane_ofInt]
  exact lane_wrap (a ^^^ b)
theorem lane_or (a b : BitVec 64) : bits .or .u64 (lane a) (lane b) = lane (a ||| b) := by
  unfold bits
  simp only [lane_ofInt]
  exact lane_wrap (a ||| b)
theorem lane_and (a b : BitVec 64) : bits .and .u64 (lane a) (lane b) = lane (a &&& b) := by
  unfold bits
  simp only [lane_ofInt]
  exact lane_wrap (a &&& b)
theorem wrap_u64 (z : Int) : IntKind.u64.wrap z = z % 18446744073709551616 := by
  unfold IntKind.wrap
  simp only [IntKind.signed, Bool.false_and, Bool.false_eq_true, if_false]
  rfl
theorem lane_shl (a : BitVec 64) (n : Nat) : IntKind.u64.wrap (lane a * 2 ^ n) = lane (a <<< n) := by
  rw [wrap_u64]
  unfold lane
  rw [BitVec.toNat_shiftLeft, Nat.shiftLeft_eq, Int.natCast_emod, Int.natCast_mul, Int.natCast_pow]
  rfl
theorem lane_shr (a : BitVec 64) (n : Nat) : lane a / 2 ^ n = lane (a >>> n) := by
  unfold lane
  simp only [BitVec.toNat_ushiftRight, Nat.shiftRight_eq_div_pow]
  push_cast
  rfl
set_option maxHeartbeats 1000000 in
theorem turn_spec (w : World) (x : BitVec 64) (n : Nat) (h1 : 1 ≤ n) (h2 : n ≤ 63) :
    Calls Tryd.prog 64 #[.int .u64 (lane x), .int .i64 n] w (Tells w (.int .u64 (lane (turnL x n)))) := by
  go_enter Tryd.func64, Tryd.ntmps64
  go_wp2_with fail
  go_quiet (fail)
  go_wp2_with fail
  go_ret
  rw [lane_shl, lane_shr, lane_or]
  exact ⟨rfl, ⟨rfl, rfl, rfl, Nat.le_refl _, fun _ _ => rfl⟩⟩
end Go.Proofs.YtcanckliggcllaaDoor
namespace Go.Proofs.YtcanckliggcllaaDoor
open Go.RowKit
set_option maxRecDepth 100000
set_option linter.unusedVariables false
set_option linter.unusedSimpArgs false
theorem nagg_88 (w : World) : (isAgg 88).run Tryd.prog w = .ok false w := by kernel_rfl
theorem size_88 : (Tryd.prog.info? 88).map (·.size) = some 1 := by kernel_rfl
theorem sizeof_88 (w : World) : (sizeOf 88).run Tryd.prog w = .ok 1 w := by kernel_rfl
theorem size_107 : (Tryd.prog.info? 107).map (·.size) = some 5 := by kernel_rfl
theorem zero_107 (w : World) : (zeroValue 107).run Tryd.prog w = .ok (.agg #[.int .u64 0, .int .u64 0, .int .u64 0, .int .u64 0, .int .u64 0]) w := by kernel_rfl
abbrev laneV (a : BitVec 64) : Value := .int .u64 (lane a)
theorem at0_mapL (n : Nat) (f : Nat → BitVec 64) (i : Nat) (h : i < n) : at0 (mapL n f) i = f i := by simp [at0, mapL, List.getD, h]
theorem mapL_ext {n : Nat} {f g : Nat → BitVec 64} (h : ∀ i, i < n → f i = g i) : mapL n f = mapL n g := List.map_congr_left (fun i hi => h i (List.mem_range.1 hi))
theorem mapL_at0 (S : List (BitVec 64)) : mapL S.length (at0 S) = S := by
  apply List.ext_getElem (by simp [mapL])
  intro i h1 h2
  simp [mapL, at0, List.getD, h2]
theorem mapL_set (n : Nat) (f : Nat → BitVec 64) (k : Nat) (v : BitVec 64) : (mapL n f).set k v = mapL n fun i => if i = k then v else f i := by
  apply List.ext_getElem (by simp [mapL])
  intro i h1 h2
  simp only [mapL, List.getElem_set, List.getElem_map, List.getElem_range]
  by_cases h : k = i
  · subst h; simp
  · rw [if_neg h, if_neg (fun e => h e.symm)]
theorem goesN_bd : ∀ i, i < 24 → goesN i < 25 := by decide
theorem turnsN_bd : ∀ i, i < 24 → 1 ≤ turnsN i ∧ turnsN i ≤ 63 := by decide
def Tabs (w : World) : Prop := (∀ i, i < 24 → w.cell? ⟨0, i, none⟩ = some (.int .i64 (goesN i))) ∧ (∀ i, i < 24 → w.cell? ⟨1, i, none⟩ = some (.int .i64 (turnsN i))) ∧ ∀ i, i < 24 → w.cell? ⟨2, i, none⟩ = some (.int .u64 (lane (roundB i)))
theorem Tabs.lt {w : World} (h : Tabs w) : 0 < w.heap.size ∧ 1 < w.heap.size ∧ 2 < w.heap.size :=
  ⟨World.block_lt_of_cell? w ⟨0, 0, none⟩ (h.1 0 (by decide)), World.block_lt_of_cell? w ⟨1, 0, none⟩ (h.2.1 0 (by decide)), World.block_lt_of_cell? w ⟨2, 0, none⟩ (h.2.2 0 (by decide))⟩
theorem Tabs.below {w w' : World} {N : Nat} (h : Tabs w) (hb : Below N w w') (h1 : 0 < N) (h2 : 1 < N) (h3 : 2 < N) : Tabs w' :=
  ⟨fun i hi => by rw [hb.cell (p := ⟨0, i, none⟩) h1]; exact h.1 i hi, fun i hi => by rw [hb.cell (p := ⟨1, i, none⟩) h2]; exact h.2.1 i hi, fun i hi => by rw [hb.cell (p := ⟨2, i, none⟩) h3]; exact h.2.2 i hi⟩
def goesV : Array Value := (goesT.map fun i : Nat => Value.int .i64 (i : Int)).toArray
theorem goes_load {w : World} (h : Tabs w) : (Instr.loadAt 109 (.pointer (some ⟨0, 0, none⟩))).run Tryd.prog w = .ok (.agg goesV) w := by
  unfold goesV
  refine run_loadAt_mid (P := Tryd.prog) w 0 0 109 (goesT.map fun i : Nat => Value.int .i64 (i : Int)) (.array 24 3) (fun j v hj => ?_) (by kernel_rfl) rfl (by kernel_rfl)
  have hj' : j < 24 := by
    have := (List.getElem?_eq_some_iff.1 hj).1
    simpa [goesT] using this
  rw [Nat.zero_add, h.1 j hj', ← hj]
  unfold goesN
  rw [List.getElem?_map, List.getD_eq_getElem?_getD]
  have : goesT[j]? = some (goesT[j]'(by simpa [goesT] using hj')) := List.getElem?_eq_getElem _
  rw [this]
  rfl
theorem Tabs.at {w w' : World} (h : Tabs w) (hb : Below w.heap.size w w') : Tabs w' := h.below hb h.lt.1 h.lt.2.1 h.lt.2.2
theorem goes_at {k : Nat} (h : k < 24) : goesV[k]? = some (.int .i64 ((goesN k : Nat) : Int)) := by
  unfold goesV goesN
  have hk : k < goesT.length := by simpa [goesT] using h
  simp [List.getElem?_map, List.getElem?_eq_getElem hk, List.getD_eq_getElem?_getD]
theorem lanes_at {X : List (BitVec 64)} {i : Nat} (h : i < X.length) : (X.map laneV)[i]? = some (laneV (at0 X i)) := by
  simp [at0, List.getElem?_map, List.getElem?_eq_getElem h, List.getD_eq_getElem?_getD]
theorem lanes_set {X : List (BitVec 64)} {j : Nat} {x : BitVec 64} (h : j < X.length) : splice (X.map laneV) j [laneV x] = (X.set j x).map laneV := by
  unfold splice
  rw [List.map_set, List.set_eq_take_append_cons_drop, if_pos (by simpa using h)]
  simp
def cL (S : List (BitVec 64)) (k : Nat) : List (BitVec 64) := mapL 5 fun x => if x < k then colL S x else 0
theorem cL_len (S : List (BitVec 64)) (k : Nat) : (cL S k).length = 5 := mapL_len _ _
theorem cL_step (S : List (BitVec 64)) {k : Nat} (h : k < 5) : (cL S k).set k (colL S k) = cL S (k + 1) := by
  unfold cL
  rw [mapL_set]
  refine mapL_ext fun i hi => ?_
  by_cases e : i = k
  · subst e; rw [if_pos rfl, if_pos (by omega)]
  · rw [if_neg e]
    by_cases e2 : i < k
    · rw [if_pos e2, if_pos (by omega)]
    · rw [if_neg e2, if_neg (by omega)]
theorem cL_zero (S : List (BitVec 64)) : cL S 0 = List.replicate 5 0 := by
  unfold cL mapL; rfl
theorem cL_all (S : List (BitVec 64)) : cL S 5 = (List.range 5).map (colL S) := by
  unfold cL
  exact mapL_ext fun i hi => if_pos hi
theorem thL_len (S C : List (BitVec 64)) (k : Nat) : (thL S C k).length = 25 := mapL_len _ _
theorem thL_zero {S C : List (BitVec 64)} (h : S.length = 25) : thL S C 0 = S := by
  unfold thL
  rw [mapL_ext (g := at0 S) (fun i hi => if_neg (by omega))]
  have := mapL_at0 S
  rwa [h] at this
theorem thL_at {S C : List (BitVec 64)} {i : Nat} (h : i < 25) : at0 (thL S C i) i = at0 S i := by
  unfold thL
  rw [at0_mapL _ _ _ h, if_neg (by omega)]
theorem thL_step (S C : List (BitVec 64)) {i : Nat} (h : i < 25) : (thL S C i).set i (thAt S C i) = thL S C (i + 1) := by
  unfold thL
  rw [mapL_set]
  refine mapL_ext fun j hj => ?_
  by_cases e : j = i
  · subst e; rw [if_pos rfl, if_pos (by omega)]
  · rw [if_neg e]
    by_cases e2 : j < i
    · rw [if_pos e2, if_pos (by omega)]
    · rw [if_neg e2, if_neg (by omega)]
theorem rhoL_len {A : List (BitVec 64)} (h : A.length = 25) : ∀ k, (rhoL A k).1.length = 25
  | 0 => h
  | k + 1 => by simp [rhoL, rhoL_len h k]
def chiK (B : List (BitVec 64)) (k : Nat) : List (BitVec 64) := mapL 25 fun i => if i < k then chiAt B i else at0 B i
theorem chiK_len (B : List (BitVec 64)) (k : Nat) : (chiK B k).length = 25 := mapL_len _ _
theorem chiK_zero {B : List (BitVec 64)} (h : B.length = 25) : chiK B 0 = B := by
  unfold chiK
  rw [mapL_ext (g := at0 B) (fun i hi => if_neg (by omega))]
  have := mapL_at0 B
  rwa [h] at this
theorem chiK_at {B : List (BitVec 64)} {k i : Nat} (h : k ≤ i) (hi : i < 25) : at0 (chiK B k) i = at0 B i := by
  unfold chiK
  rw [at0_mapL _ _ _ hi, if_neg (by omega)]
theorem chiK_step (B : List (BitVec 64)) {i : Nat} (h : i < 25) : (chiK B i).set i (chiAt B i) = chiK B (i + 1) := by
  unfold chiK
  rw [mapL_set]
  refine mapL_ext fun j hj => ?_
  by_cases e : j = i
  · subst e; rw [if_pos rfl, if_pos (by omega)]
  · rw [if_neg e]
    by_cases e2 : j < i
    · rw [if_pos e2, if_pos (by omega)]
    · rw [if_neg e2, if_neg (by omega)]
theorem chiK_all (B : List (BitVec 64)) : chiK B 25 = chiL B := by
  unfold chiK chiL
  exact mapL_ext fun i hi => if_pos hi
section
variable {P : Program} {ρ : Operand → Value} {w : World} {d : Option Tmp} {t X Y E : TypeId} {n : Nat} {pos : String} {after : Array Edge} {guard : Option (Nat × Bool)} {x y : Operand}
theorem ex_ixA {cs : Array Value} {i : Nat} {v : Value} (hX : P.underlying X = some (.array n E)) (hs : (sizeOf E).run P w = .ok 1 w) (hx : ρ x = .agg cs) (hy : ρ y = .int .i64 i) (hi : i < n) (hb : (isAgg E).run P w = .ok false w) (hv : cs[i]? = some v) :
    (execOp ρ ⟨d, .index X x y, t, pos, after, guard⟩).run P w = .ok (.value v) w := by
  have h1 : (0 : Int) ≤ (i : Int) ∧ (i : Int) < (n : Int) := by omega
  simp [execOp, hx, hy, Instr.index, part, Sem.run_bind, run_underlying hX w, asIntOf, hs, h1, hb, hv, hi]
theorem ex_atA {b i : Nat} (hX : P.underlying X = some (.array n E)) (hs : (sizeOf E).run P w = .ok 1 w) (hx : ρ x = .pointer (some ⟨b, 0, none⟩)) (hy : ρ y = .int .i64 i) (hi : i < n) :
    (execOp ρ ⟨d, .indexAddr X x y, t, pos, after, guard⟩).run P w = .ok (.value (.pointer (some ⟨b, i, none⟩))) w := by
  have hadd : (⟨b, 0, none⟩ : Addr).add (i * 1) = ⟨b, i, none⟩ := by rw [Addr.add_mid]; simp
  have hlt : (0 : Int) ≤ (i : Int) ∧ (i : Int) < (n : Int) := by omega
  simp only [Nat.mul_one] at hadd
  simp [execOp, hx, hy, Instr.indexAt, Instr.sureAddr, asIntOf, Sem.run_bind, Sem.run_pure, Result.andThen_ok, run_underlying hX w, hs, hadd, hlt, hi]
theorem ex_xorL {a b : BitVec 64} (hx : ρ x = laneV a) (hy : ρ y = laneV b) : (execOp ρ ⟨d, .binOp .xor X x y Y, t, pos, after, guard⟩).run P w = .ok (.value (laneV (a ^^^ b))) w := by
  refine ex_bin hx hy ?_
  rw [run_binInt _ (by simp)]
  show Result.ok (Value.int .u64 (bits .xor .u64 (lane a) (lane b))) w = _
  rw [lane_xor]
theorem ex_andL {a b : BitVec 64} (hx : ρ x = laneV a) (hy : ρ y = laneV b) : (execOp ρ ⟨d, .binOp .and X x y Y, t, pos, after, guard⟩).run P w = .ok (.value (laneV (a &&& b))) w := by
  refine ex_bin hx hy ?_
  rw [run_binInt _ (by simp)]
  show Result.ok (Value.int .u64 (bits .and .u64 (lane a) (lane b))) w = _
  rw [lane_and]
theorem ex_notL {a : BitVec 64} (hx : ρ x = laneV a) : (execOp ρ ⟨d, .unOp .xor X x, t, pos, after, guard⟩).run P w = .ok (.value (laneV (~~~ a))) w := by
  have e : (18446744073709551615 : Int) = lane (BitVec.allOnes 64) := by decide
  have h : bits .xor .u64 (18446744073709551615 : Int) (lane a) = lane (~~~ a) := by rw [e, lane_xor, BitVec.allOnes_xor]
  simp only [execOp, hx]
  show Result.ok (Next.value (.int .u64 (bits .xor .u64 (18446744073709551615 : Int) (lane a)))) w = _
  rw [h]
theorem ex_remA {m n : Nat} (hx : ρ x = .int .i64 (m : Int)) (hy : ρ y = .int .i64 (n : Int)) (hn : 0 < n) (hm : m ≤ 9223372036854775807) : (execOp ρ ⟨d, .binOp .rem X x y Y, t, pos, after, guard⟩).run P w = .ok (.value (.int .i64 ((m % n : Nat) : Int))) w := by
  refine ex_bin hx hy ?_
  rw [run_binInt _ (by simp)]
  show (Op.intDiv .rem .i64 m n).run P w = _
  unfold Op.intDiv
  rw [if_neg (by omega)]
  show Result.ok (Value.int .i64 (Int.tmod (m : Int) (n : Int))) w = _
  rw [Int.tmod_eq_emod_of_nonneg (by omega)]
  rfl
end
end Go.Proofs.YtcanckliggcllaaDoor
namespace Go.Proofs.YtcanckliggcllaaDoor
open Go.RowKit
set_option maxRecDepth 100000
set_option linter.unusedVariables false
set_option linter.unusedSimpArgs false
theorem ex_sliceA {P : Program} {ρ : Operand → Value} {w : World} {d : Option Tmp} {t X E : TypeId} {n : Nat} {pos : String} {after : Array Edge} {guard : Option (Nat × Bool)} {x lo hi : Operand} {b l h : Nat} (hX : P.underlying X = some (.array n E)) (hx : ρ x = .pointer (some ⟨b, 0, none⟩)) (hsz : (sizeOf E).run P w = .ok 1 w) (hl : ρ lo = .int .i64 (l : Int)) (hh : ρ hi = .int .i64 (h : Int)) (h1 : l ≤ h) (h2 : h ≤ n) (h3 : l < n) :
    (execOp ρ ⟨d, .slice X x (some lo) (some hi) none, t, pos, after, guard⟩).run P w = .ok (.value (.slice (some ⟨b, l, none⟩) (h - l) (n - l))) w := by
  have b1 : ∀ (z y : Nat) (code : BoundsCode), z ≤ y → (Instr.sliceBound (.int .i64 z) y code).run P w = .ok z w := by
    intro z y code hzy
    have : (0 : Int) ≤ (z : Int) ∧ (z : Int) ≤ (y : Int) := by omega
    simp [Instr.sliceBound, asIntOf, this]
  have hb : (Instr.sliceBounds false n n (some (.int .i64 l)) (some (.int .i64 h)) none).run P w = .ok (l, h, n) w := by
    simp [Instr.sliceBounds, b1 _ _ _ h2, b1 _ _ _ h1]
  have hadd : (⟨b, 0, none⟩ : Addr).add l = ⟨b, l, none⟩ := by have := Addr.add_mid b 0 l; simpa using this
  have hn : ¬ n = l := by omega
  simp [execOp, hx, hl, hh, Instr.sliceAt, Instr.sureAddr, Sem.run_bind, Sem.run_pure, Result.andThen_ok, run_underlying hX w, hb, hsz, hadd, hn]
theorem ex_s2a {P : Program} {ρ : Operand → Value} {w : World} {d : Option Tmp} {t X E : TypeId} {n : Nat} {pos : String} {after : Array Edge} {guard : Option (Nat × Bool)} {x : Operand} {a : Option Addr} {l c : Nat} (hX : P.underlying X = some (.array n E)) (hx : ρ x = .slice a l c) (hl : n ≤ l) :
    (execOp ρ ⟨d, .sliceToArrayPointer X x, t, pos, after, guard⟩).run P w = .ok (.value (.pointer a)) w := by
  have : ¬ l < n := by omega
  simp [execOp, hx, Instr.arrayAt, Sem.run_bind, Sem.run_pure, run_underlying hX w, this]
theorem St.cellsAt {w0 w : World} {F0 F : Fz} {L : List Blk} {M : List RowP} (S : St w0 F0 w F L M) {i : Nat} {n : Nat} {c : List Value} {t : TypeId} (h : L[i]? = some ⟨n, c, t⟩) : ∀ j v, c[j]? = some v → w.cell? ⟨n, j, none⟩ = some v := fun j v hv => St.cell S h hv
theorem row_load {w : World} {n : Nat} {X : List (BitVec 64)} {y : Nat} (h : ∀ (j : Nat) v, (X.map laneV)[j]? = some v → w.cell? ⟨n, j, none⟩ = some v) (hy : y + 5 ≤ X.length) :
    (Instr.loadAt 107 (.pointer (some ⟨n, y, none⟩))).run Tryd.prog w = .ok (.agg #[laneV (at0 X y), laneV (at0 X (y + 1)), laneV (at0 X (y + 2)), laneV (at0 X (y + 3)), laneV (at0 X (y + 4))]) w := by
  refine run_loadAt_mid (P := Tryd.prog) w n y 107 [laneV (at0 X y), laneV (at0 X (y + 1)), laneV (at0 X (y + 2)), laneV (at0 X (y + 3)), laneV (at0 X (y + 4))] (.array 5 88) (fun j v hj => ?_) (by kernel_rfl) rfl (by kernel_rfl)
  refine h _ _ ?_
  have hj5 : j < 5 := by have := (List.getElem?_eq_some_iff.1 hj).1; simpa using this
  rw [lanes_at (by omega), ← hj]
  rcases (by omega : j = 0 ∨ j = 1 ∨ j = 2 ∨ j = 3 ∨ j = 4) with rfl | rfl | rfl | rfl | rfl <;> rfl
theorem rho_one (A : List (BitVec 64)) (k : Nat) : (rhoL A k).1.set (goesN k) (turnL (rhoL A k).2 (turnsN k)) = (rhoL A (k + 1)).1 := rfl
def rowL (Q : List (BitVec 64)) (y : Nat) : List (BitVec 64) := [at0 Q y, at0 Q (y + 1), at0 Q (y + 2), at0 Q (y + 3), at0 Q (y + 4)]
theorem rowL_len (Q : List (BitVec 64)) (y : Nat) : (rowL Q y).length = 5 := rfl
theorem rowL_at {Q : List (BitVec 64)} {y x : Nat} (h : x < 5) : at0 (rowL Q y) x = at0 Q (y + x) := by
  rcases (by omega : x = 0 ∨ x = 1 ∨ x = 2 ∨ x = 3 ∨ x = 4) with rfl | rfl | rfl | rfl | rfl <;> rfl
theorem rowL_chi {Q : List (BitVec 64)} {y : Nat} (h : y + 5 ≤ 25) : rowL (chiK Q y) y = rowL Q y := by
  unfold rowL
  rw [chiK_at (by omega) (by omega), chiK_at (by omega) (by omega), chiK_at (by omega) (by omega), chiK_at (by omega) (by omega), chiK_at (by omega) (by omega)]
theorem chi_row {Q : List (BitVec 64)} {y x : Nat} (hy : y % 5 = 0) (hx : x < 5) : at0 (rowL Q y) x ^^^ (~~~ (at0 (rowL Q y) ((x + 1) % 5)) &&& at0 (rowL Q y) ((x + 2) % 5)) = chiAt Q (y + x) := by
  unfold chiAt
  rw [rowL_at hx, rowL_at (by omega), rowL_at (by omega), show (y + x) / 5 * 5 = y from by omega, show (y + x) % 5 = x from by omega]
theorem res_0 {fn : Func} {tmps : Array Value} {P : Program} {w : World} (h : fn.results = #[]) : (results fn tmps).run P w = .ok (.tuple #[]) w := by simp [results, h]
set_option maxHeartbeats 8000000 in
theorem stir_spec {w0 w : World} {F0 F : Fz} {L0 : List Blk} {M0 : List RowP} {rb r : Nat} {Z : List (BitVec 64)} (S : St w0 F0 w F (⟨rb, Z.map laneV, 90⟩ :: L0) M0) (hl : Z.length = 25) (hT : Tabs w0) (hr : r < 24) :
    Calls Tryd.prog 53 #[.pointer (some ⟨rb, 0, none⟩), .int .i64 ((r : Nat) : Int)] w fun e w' => e = .returned (.tuple #[]) ∧ St w0 F0 w' F (⟨rb, (stirL Z r).map laneV, 90⟩ :: L0) M0 := by
 go_enter Tryd.func53, Tryd.ntmps53
 refine wp_seq_k (fun K1 hK1 => region_wl ?_)
 refine stNew S (v := fun n => .pointer (some ⟨n, 0, none⟩)) rfl (ex_alloc (zero_107 _)) (fun n2 w3 S4 => ?_)
 simp only [pS, pN, pA, pC, pZ]
 have S4 : St w0 F0 w3 F (⟨n2, [(laneV 0), (laneV 0), (laneV 0), (laneV 0), (laneV 0)], 107⟩ :: ⟨rb, (Z.map laneV), 90⟩ :: L0) (M0) := S4
 refine wl_nil (hK1 _ _ ?_)
 refine wp_seq_k (fun K5 hK5 => ?_)
 refine wp_seq_k (fun K6 hK6 => region_wl ?_)
 refine do_ rfl (.int .i64 0) (ex_move _) ?_
 simp only [pS, pN, pA, pC, pZ]
 refine wl_nil (hK6 _ _ ?_)
 refine wp_block ?_
 have S4 : St w0 F0 w3 F (⟨n2, ((cL Z 0).map laneV), 107⟩ :: ⟨rb, (Z.map laneV), 90⟩ :: L0) (M0) := by rw [cL_zero]; exact S4
 refine wp_loop_g (fun mm aa w8 => ∃ (k1 : Nat) (u7 : Nat → Value), mm = 5 - k1 ∧ u7 = slots aa ∧ aa = ⟨#[(.pointer (some ⟨rb, 0, none⟩)), (.int .i64 ((r : Nat) : Int)), undef, undef, (.pointer (some ⟨n2, 0, none⟩)), (u7 5), undef, undef, undef, undef, undef, undef, undef, undef, (.int .i64 ((k1 : Nat) : Int)), (u7 15), (u7 16), (u7 17), (u7 18), (u7 19), (u7 20), (u7 21), (u7 22), (u7 23), (u7 24), (u7 25), (u7 26), (u7 27), (u7 28), (u7 29), (u7 30), (u7 31), (u7 32), (u7 33), (u7 34), (u7 35), (u7 36), (u7 37), (u7 38), (u7 39), (u7 40), (u7 41), (u7 42), (u7 43), (u7 44), (u7 45), (u7 46), (u7 47), (u7 48), (u7 49), (u7 50), (u7 51), (u7 52), undef, undef, undef, undef, undef, undef, undef, undef, undef, undef, undef, undef, undef, undef, undef, undef, undef, undef, undef, undef, undef, undef, undef, undef, undef, undef, undef, undef, undef, undef, undef, undef, undef, undef, undef, undef, undef, undef, undef, undef, undef, undef, undef, undef, undef, undef, undef, undef, undef, undef, undef, undef, undef, undef, undef, undef, undef, undef, undef, undef, undef, undef, undef, undef, undef, undef, undef, undef, undef, undef, undef, undef, undef, undef, undef, undef, undef, undef, undef, undef, undef, undef, undef, undef, undef, undef, undef, undef, undef, undef, undef, undef, undef, undef, undef, undef, undef, undef], []⟩ ∧ St w0 F0 w8 F (⟨n2, ((cL Z k1).map laneV), 107⟩ :: ⟨rb, (Z.map laneV), 90⟩ :: L0) (M0) ∧ (k1 ≤ 5)) _ ⟨0, _, rfl, rfl, rfl, S4, (by omega)⟩ ?_
 rintro m9 a10 w11 ⟨k1, u7, rfl, -, rfl, S12, hk1⟩ K14 hK14
 refine wp_seq_k (fun K15 hK15 => region_wl ?_)
 by_cases hc15 : k1 < 5
 ·refine do_ rfl (.bool true) (ex_lss (m := ((k1 : Nat) : Int)) (n := (5 : Int)) (b := true) rfl rfl (decide_eq_true (by omega))) ?_
  simp only [pS, pN, pA, pC, pZ]
  refine wl_nil (hK15 _ _ ?_)
  refine wp_seq_k (fun K16 hK16 => ?_)
  refine wp_cond_true rfl ?_
  refine wp_skip ?_
  refine hK16 _ _ ?_
  refine wp_seq_k (fun K17 hK17 => ?_)
  refine wp_block ?_
  refine wp_seq_k (fun K18 hK18 => region_wl ?_)
  refine do_ rfl (.int .i64 ((k1 : Nat) : Int)) (ex_move _) ?_
  simp only [pS, pN, pA, pC, pZ]
  refine do_ rfl (.int .i64 ((k1 : Nat) : Int)) (ex_assign _) ?_
  simp only [pS, pN, pA, pC, pZ]
  refine wl_nil (hK18 _ _ ?_)
  refine region_gw F 34 [] (by kernel_rfl) (by kernel_rfl) ?_
  simp only [List.take_succ_cons, List.take_zero]
  refine gw_pure rfl rfl (.int .i64 ((k1 : Nat) : Int)) (fun w19 hCw19 => pureAt_of (ex_move _)) ?_
  simp only [pS, pN, pA, pC, pZ]
  refine gw_pure rfl rfl (.pointer (some ⟨rb, 0, none⟩)) (fun w19 hCw19 => pureAt_of (ex_move _)) ?_
  simp only [pS, pN, pA, pC, pZ]
  refine gw_pure rfl rfl (.int .i64 ((k1 : Nat) : Int)) (fun w19 hCw19 => pureAt_of (ex_move _)) ?_
  simp only [pS, pN, pA, pC, pZ]
  refine gw_pure rfl rfl (.pointer (some ⟨rb, 0, none⟩)) (fun w19 hCw19 => pureAt_of (ex_nil rfl)) ?_
  simp only [pS, pN, pA, pC, pZ]
  refine gw_pure rfl rfl (.pointer (some ⟨rb, k1, none⟩)) (fun w19 hCw19 => pureAt_of (ex_atA (i := k1) Tryd.underlying90 (sizeof_88 _) rfl rfl (by omega))) ?_
  simp only [pS, pN, pA, pC, pZ]
  refine gw_pure rfl rfl (laneV (at0 Z k1)) (fun w19 hCw19 => pureAt_of (ex_load rfl (load1 (nagg_88 _) (St.cell (St.tells S12 hCw19) (i := 1) rfl (lanes_at (Nat.lt_of_lt_of_eq (show k1 < 25 by omega) hl.symm)))))) ?_
  simp only [pS, pN, pA, pC, pZ]
  refine gw_pure rfl rfl (.pointer (some ⟨rb, 0, none⟩)) (fun w19 hCw19 => pureAt_of (ex_move _)) ?_
  simp only [pS, pN, pA, pC, pZ]
  refine gw_pure rfl rfl (.int .i64 ((k1 : Nat) : Int)) (fun w19 hCw19 => pureAt_of (ex_move _)) ?_
  simp only [pS, pN, pA, pC, pZ]
  refine gw_pure rfl rfl (.int .i64 (((k1 + 5) : Nat) : Int)) (fun w19 hCw19 => pureAt_of (ex_add (m := ((k1 : Nat) : Int)) (n := (5 : Int)) (r := (((k1 + 5) : Nat) : Int)) rfl rfl (by omega) (by omega) (by omega))) ?_
  simp only [pS, pN, pA, pC, pZ]
  refine gw_pure rfl rfl (.pointer (some ⟨rb, 0, none⟩)) (fun w19 hCw19 => pureAt_of (ex_nil rfl)) ?_
  simp only [pS, pN, pA, pC, pZ]
  refine gw_pure rfl rfl (.pointer (some ⟨rb, (k1 + 5), none⟩)) (fun w19 hCw19 => pureAt_of (ex_atA (i := (k1 + 5)) Tryd.underlying90 (sizeof_88 _) rfl rfl (by omega))) ?_
  simp only [pS, pN, pA, pC, pZ]
  refine gw_pure rfl rfl (laneV (at0 Z (k1 + 5))) (fun w19 hCw19 => pureAt_of (ex_load rfl (load1 (nagg_88 _) (St.cell (St.tells S12 hCw19) (i := 1) rfl (lanes_at (Nat.lt_of_lt_of_eq (show (k1 + 5) < 25 by omega) hl.symm)))))) ?_
  simp only [pS, pN, pA, pC, pZ]
  refine gw_pure rfl rfl (laneV ((at0 Z k1) ^^^ (at0 Z (k1 + 5)))) (fun w19 hCw19 => pureAt_of (ex_xorL rfl rfl)) ?_
  simp only [pS, pN, pA, pC, pZ]
  refine gw_pure rfl rfl (.pointer (some ⟨rb, 0, none⟩)) (fun w19 hCw19 => pureAt_of (ex_move _)) ?_
  simp only [pS, pN, pA, pC, pZ]
  refine gw_pure rfl rfl (.int .i64 ((k1 : Nat) : Int)) (fun w19 hCw19 => pureAt_of (ex_move _)) ?_
  simp only [pS, pN, pA, pC, pZ]
  refine gw_pure rfl rfl (.int .i64 (((k1 + 10) : Nat) : Int)) (fun w19 hCw19 => pureAt_of (ex_add (m := ((k1 : Nat) : Int)) (n := (10 : Int)) (r := (((k1 + 10) : Nat) : Int)) rfl rfl (by omega) (by omega) (by omega))) ?_
  simp only [pS, pN, pA, pC, pZ]
  refine gw_pure rfl rfl (.pointer (some ⟨rb, 0, none⟩)) (fun w19 hCw19 => pureAt_of (ex_nil rfl)) ?_
  simp only [pS, pN, pA, pC, pZ]
  refine gw_pure rfl rfl (.pointer (some ⟨rb, (k1 + 10), none⟩)) (fun w19 hCw19 => pureAt_of (ex_atA (i := (k1 + 10)) Tryd.underlying90 (sizeof_88 _) rfl rfl (by omega))) ?_
  simp only [pS, pN, pA, pC, pZ]
  refine gw_pure rfl rfl (laneV (at0 Z (k1 + 10))) (fun w19 hCw19 => pureAt_of (ex_load rfl (load1 (nagg_88 _) (St.cell (St.tells S12 hCw19) (i := 1) rfl (lanes_at (Nat.lt_of_lt_of_eq (show (k1 + 10) < 25 by omega) hl.symm)))))) ?_
  simp only [pS, pN, pA, pC, pZ]
  refine gw_pure rfl rfl (laneV (((at0 Z k1) ^^^ (at0 Z (k1 + 5))) ^^^ (at0 Z (k1 + 10)))) (fun w19 hCw19 => pureAt_of (ex_xorL rfl rfl)) ?_
  simp only [pS, pN, pA, pC, pZ]
  refine gw_pure rfl rfl (.pointer (some ⟨rb, 0, none⟩)) (fun w19 hCw19 => pureAt_of (ex_move _)) ?_
  simp only [pS, pN, pA, pC, pZ]
  refine gw_pure rfl rfl (.int .i64 ((k1 : Nat) : Int)) (fun w19 hCw19 => pureAt_of (ex_move _)) ?_
  simp only [pS, pN, pA, pC, pZ]
  refine gw_pure rfl rfl (.int .i64 (((k1 + 15) : Nat) : Int)) (fun w19 hCw19 => pureAt_of (ex_add (m := ((k1 : Nat) : Int)) (n := (15 : Int)) (r := (((k1 + 15) : Nat) : Int)) rfl rfl (by omega) (by omega) (by omega))) ?_
  simp only [pS, pN, pA, pC, pZ]
  refine gw_pure rfl rfl (.pointer (some ⟨rb, 0, none⟩)) (fun w19 hCw19 => pureAt_of (ex_nil rfl)) ?_
  simp only [pS, pN, pA, pC, pZ]
  refine gw_pure rfl rfl (.pointer (some ⟨rb, (k1 + 15), none⟩)) (fun w19 hCw19 => pureAt_of (ex_atA (i := (k1 + 15)) Tryd.underlying90 (sizeof_88 _) rfl rfl (by omega))) ?_
  simp only [pS, pN, pA, pC, pZ]
  refine gw_pure rfl rfl (laneV (at0 Z (k1 + 15))) (fun w19 hCw19 => pureAt_of (ex_load rfl (load1 (nagg_88 _) (St.cell (St.tells S12 hCw19) (i := 1) rfl (lanes_at (Nat.lt_of_lt_of_eq (show (k1 + 15) < 25 by omega) hl.symm)))))) ?_
  simp only [pS, pN, pA, pC, pZ]
  refine gw_pure rfl rfl (laneV ((((at0 Z k1) ^^^ (at0 Z (k1 + 5))) ^^^ (at0 Z (k1 + 10))) ^^^ (at0 Z (k1 + 15)))) (fun w19 hCw19 => pureAt_of (ex_xorL rfl rfl)) ?_
  simp only [pS, pN, pA, pC, pZ]
  refine gw_pure rfl rfl (.pointer (some ⟨rb, 0, none⟩)) (fun w19 hCw19 => pureAt_of (ex_move _)) ?_
  simp only [pS, pN, pA, pC, pZ]
  refine gw_pure rfl rfl (.int .i64 ((k1 : Nat) : Int)) (fun w19 hCw19 => pureAt_of (ex_move _)) ?_
  simp only [pS, pN, pA, pC, pZ]
  refine gw_pure rfl rfl (.int .i64 (((k1 + 20) : Nat) : Int)) (fun w19 hCw19 => pureAt_of (ex_add (m := ((k1 : Nat) : Int)) (n := (20 : Int)) (r := (((k1 + 20) : Nat) : Int)) rfl rfl (by omega) (by omega) (by omega))) ?_
  simp only [pS, pN, pA, pC, pZ]
  refine gw_pure rfl rfl (.pointer (some ⟨rb, 0, none⟩)) (fun w19 hCw19 => pureAt_of (ex_nil rfl)) ?_
  simp only [pS, pN, pA, pC, pZ]
  refine gw_pure rfl rfl (.pointer (some ⟨rb, (k1 + 20), none⟩)) (fun w19 hCw19 => pureAt_of (ex_atA (i := (k1 + 20)) Tryd.underlying90 (sizeof_88 _) rfl rfl (by omega))) ?_
  simp only [pS, pN, pA, pC, pZ]
  refine gw_pure rfl rfl (laneV (at0 Z (k1 + 20))) (fun w19 hCw19 => pureAt_of (ex_load rfl (load1 (nagg_88 _) (St.cell (St.tells S12 hCw19) (i := 1) rfl (lanes_at (Nat.lt_of_lt_of_eq (show (k1 + 20) < 25 by omega) hl.symm)))))) ?_
  simp only [pS, pN, pA, pC, pZ]
  refine gw_pure rfl rfl (laneV (((((at0 Z k1) ^^^ (at0 Z (k1 + 5))) ^^^ (at0 Z (k1 + 10))) ^^^ (at0 Z (k1 + 15))) ^^^ (at0 Z (k1 + 20)))) (fun w19 hCw19 => pureAt_of (ex_xorL rfl rfl)) ?_
  simp only [pS, pN, pA, pC, pZ]
  refine gw_nil ?_
  intro w20 hC22 hF23
  clear hF23
  have S21 := St.tells S12 hC22
  simp only [List.drop_succ_cons, List.drop_zero]
  refine do_ rfl (.pointer (some ⟨n2, k1, none⟩)) (ex_atA (i := k1) Tryd.underlying107 (sizeof_88 _) rfl rfl (by omega)) ?_
  simp only [pS, pN, pA, pC, pZ]
  refine stStore (i := 0) (v := laneV (((((at0 Z k1) ^^^ (at0 Z (k1 + 5))) ^^^ (at0 Z (k1 + 10))) ^^^ (at0 Z (k1 + 15))) ^^^ (at0 Z (k1 + 20)))) S21 rfl rfl rfl rfl (size_88) (allc1 rfl) (by rw [List.length_map, (cL_len _ _)]; show k1 + 1 ≤ 5; omega) (fun w24 S25 => ?_)
  simp only [pS, pN, pA, pC, pZ]
  have S25 : St w0 F0 w24 F (⟨n2, (splice ((cL Z k1).map laneV) k1 [laneV (((((at0 Z k1) ^^^ (at0 Z (k1 + 5))) ^^^ (at0 Z (k1 + 10))) ^^^ (at0 Z (k1 + 15))) ^^^ (at0 Z (k1 + 20)))]), 107⟩ :: ⟨rb, (Z.map laneV), 90⟩ :: L0) (M0) := S25
  rw [lanes_set (Nat.lt_of_lt_of_eq (show k1 < 5 by omega) (cL_len _ _).symm)] at S25
  have S25 : St w0 F0 w24 F (⟨n2, (((cL Z k1).set k1 (colL Z k1)).map laneV), 107⟩ :: ⟨rb, (Z.map laneV), 90⟩ :: L0) (M0) := S25
  rw [cL_step Z (by omega)] at S25
  refine wl_nil (hK17 _ _ ?_)
  refine region_wl ?_
  refine do_ rfl (.int .i64 (((k1 + 1) : Nat) : Int)) (ex_add (m := ((k1 : Nat) : Int)) (n := (1 : Int)) (r := (((k1 + 1) : Nat) : Int)) rfl rfl (by omega) (by omega) (by omega)) ?_
  simp only [pS, pN, pA, pC, pZ]
  refine do_ rfl (.int .i64 (((k1 + 1) : Nat) : Int)) (ex_move _) ?_
  simp only [pS, pN, pA, pC, pZ]
  refine wl_nil ?_
  exact hK14 _ _ _ (by omega) ⟨(k1 + 1), _, rfl, rfl, rfl, S25, (by omega)⟩
 ·refine do_ rfl (.bool false) (ex_lss (m := ((k1 : Nat) : Int)) (n := (5 : Int)) (b := false) rfl rfl (decide_eq_false (by omega))) ?_
  simp only [pS, pN, pA, pC, pZ]
  refine wl_nil (hK15 _ _ ?_)
  refine wp_seq_k (fun K26 hK26 => ?_)
  refine wp_cond_false rfl ?_
  refine wp_exit ?_
  refine hK5 _ _ ?_
  refine wp_seq_k (fun K27 hK27 => ?_)
  refine wp_seq_k (fun K28 hK28 => ?_)
  obtain rfl : k1 = 5 := by omega
  refine region_wl ?_
  refine do_ rfl (.int .i64 0) (ex_move _) ?_
  simp only [pS, pN, pA, pC, pZ]
  refine wl_nil (hK28 _ _ ?_)
  refine wp_block ?_
  have S12 : St w0 F0 w11 F (⟨n2, ((cL Z 5).map laneV), 107⟩ :: ⟨rb, ((thL Z (cL Z 5) 0).map laneV), 90⟩ :: L0) (M0) := by rw [thL_zero hl]; exact S12
  refine wp_loop_g (fun mm aa w30 => ∃ (k2 : Nat) (u29 : Nat → Value), mm = 25 - k2 ∧ u29 = slots aa ∧ aa = ⟨#[(.pointer (some ⟨rb, 0, none⟩)), (.int .i64 ((r : Nat) : Int)), undef, undef, (.pointer (some ⟨n2, 0, none⟩)), (u7 5), (u29 6), (u29 7), undef, undef, undef, undef, undef, undef, (.int .i64 5), (.bool false), (u7 16), (u7 17), (u7 18), (u7 19), (u7 20), (u7 21), (u7 22), (u7 23), (u7 24), (u7 25), (u7 26), (u7 27), (u7 28), (u7 29), (u7 30), (u7 31), (u7 32), (u7 33), (u7 34), (u7 35), (u7 36), (u7 37), (u7 38), (u7 39), (u7 40), (u7 41), (u7 42), (u7 43), (u7 44), (u7 45), (u7 46), (u7 47), (u7 48), (u7 49), (u7 50), (u7 51), (u7 52), (.int .i64 ((k2 : Nat) : Int)), (u29 54), (u29 55), (u29 56), (u29 57), (u29 58), (u29 59), (u29 60), (u29 61), (u29 62), (u29 63), (u29 64), (u29 65), (u29 66), (u29 67), (u29 68), (u29 69), (u29 70), (u29 71), (u29 72), (u29 73), (u29 74), (u29 75), (u29 76), (u29 77), (u29 78), undef, undef, undef, undef, undef, undef, undef, undef, undef, undef, undef, undef, undef, undef, undef, undef, undef, undef, undef, undef, undef, undef, undef, undef, undef, undef, undef, undef, undef, undef, undef, undef, undef, undef, undef, undef, undef, undef, undef, undef, undef, undef, undef, undef, undef, undef, undef, undef, undef, undef, undef, undef, undef, undef, undef, undef, undef, undef, undef, undef, undef, undef, undef, undef, undef, undef, undef, undef, undef, undef, undef, undef], []⟩ ∧ St w0 F0 w30 F (⟨n2, ((cL Z 5).map laneV), 107⟩ :: ⟨rb, ((thL Z (cL Z 5) k2).map laneV), 90⟩ :: L0) (M0) ∧ (k2 ≤ 25)) _ ⟨0, _, rfl, rfl, rfl, S12, (by omega)⟩ ?_
  rintro m31 a32 w33 ⟨k2, u29, rfl, -, rfl, S34, hk2⟩ K36 hK36
  refine wp_seq_k (fun K37 hK37 => region_wl ?_)
  by_cases hc54 : k2 < 25
  ·refine do_ rfl (.bool true) (ex_lss (m := ((k2 : Nat) : Int)) (n := (25 : Int)) (b := true) rfl rfl (decide_eq_true (by omega))) ?_
   simp only [pS, pN, pA, pC, pZ]
   refine wl_nil (hK37 _ _ ?_)
   refine wp_seq_k (fun K38 hK38 => ?_)
   refine wp_cond_true rfl ?_
   refine wp_skip ?_
   refine hK38 _ _ ?_
   refine wp_seq_k (fun K39 hK39 => ?_)
   refine wp_block ?_
   refine wp_seq_k (fun K40 hK40 => region_wl ?_)
   refine do_ rfl (.int .i64 ((k2 : Nat) : Int)) (ex_move _) ?_
   simp only [pS, pN, pA, pC, pZ]
   refine do_ rfl (.int .i64 ((k2 : Nat) : Int)) (ex_assign _) ?_
   simp only [pS, pN, pA, pC, pZ]
   refine wl_nil (hK40 _ _ ?_)
   refine wp_seq_k (fun K41 hK41 => region_wl ?_)
   refine do_ rfl (.int .i64 ((k2 : Nat) : Int)) (ex_move _) ?_
   simp only [pS, pN, pA, pC, pZ]
   refine do_ rfl (.int .i64 (((k2 % 5) : Nat) : Int)) (ex_remA (m := k2) (n := 5) rfl rfl (by decide) (by omega)) ?_
   simp only [pS, pN, pA, pC, pZ]
   refine do_ rfl (.int .i64 (((k2 % 5) : Nat) : Int)) (ex_assign _) ?_
   simp only [pS, pN, pA, pC, pZ]
   refine wl_nil (hK41 _ _ ?_)
   refine region_gw F 19 [(15, .is (laneV (turnL (at0 (cL Z 5) (((k2 % 5) + 1) % 5)) 1)))] (by kernel_rfl) (by kernel_rfl) ?_
   simp only [List.take_succ_cons, List.take_zero]
   refine gw_pure rfl rfl (.pointer (some ⟨rb, 0, none⟩)) (fun w42 hCw42 => pureAt_of (ex_move _)) ?_
   simp only [pS, pN, pA, pC, pZ]
   refine gw_pure rfl rfl (.int .i64 ((k2 : Nat) : Int)) (fun w42 hCw42 => pureAt_of (ex_move _)) ?_
   simp only [pS, pN, pA, pC, pZ]
   refine gw_pure rfl rfl (.pointer (some ⟨rb, 0, none⟩)) (fun w42 hCw42 => pureAt_of (ex_nil rfl)) ?_
   simp only [pS, pN, pA, pC, pZ]
   refine gw_pure rfl rfl (.pointer (some ⟨rb, k2, none⟩)) (fun w42 hCw42 => pureAt_of (ex_atA (i := k2) Tryd.underlying90 (sizeof_88 _) rfl rfl (by omega))) ?_
   simp only [pS, pN, pA, pC, pZ]
   refine gw_pure rfl rfl (laneV (at0 (thL Z (cL Z 5) k2) k2)) (fun w42 hCw42 => pureAt_of (ex_load rfl (load1 (nagg_88 _) (St.cell (St.tells S34 hCw42) (i := 1) rfl (lanes_at (Nat.lt_of_lt_of_eq (show k2 < 25 by omega) (thL_len _ _ _).symm)))))) ?_
   simp only [pS, pN, pA, pC, pZ]
   refine gw_pure rfl rfl (.int .i64 (((k2 % 5) : Nat) : Int)) (fun w42 hCw42 => pureAt_of (ex_move _)) ?_
   simp only [pS, pN, pA, pC, pZ]
   refine gw_pure rfl rfl (.int .i64 ((((k2 % 5) + 4) : Nat) : Int)) (fun w42 hCw42 => pureAt_of (ex_add (m := (((k2 % 5) : Nat) : Int)) (n := (4 : Int)) (r := ((((k2 % 5) + 4) : Nat) : Int)) rfl rfl (by omega) (by omega) (by omega))) ?_
   simp only [pS, pN, pA, pC, pZ]
   refine gw_pure rfl rfl (.int .i64 (((((k2 % 5) + 4) % 5) : Nat) : Int)) (fun w42 hCw42 => pureAt_of (ex_remA (m := ((k2 % 5) + 4)) (n := 5) rfl rfl (by decide) (by omega))) ?_
   simp only [pS, pN, pA, pC, pZ]
   refine gw_pure rfl rfl (.pointer (some ⟨n2, (((k2 % 5) + 4) % 5), none⟩)) (fun w42 hCw42 => pureAt_of (ex_atA (i := (((k2 % 5) + 4) % 5)) Tryd.underlying107 (sizeof_88 _) rfl rfl (by omega))) ?_
   simp only [pS, pN, pA, pC, pZ]
   refine gw_pure rfl rfl (laneV (at0 (cL Z 5) (((k2 % 5) + 4) % 5))) (fun w42 hCw42 => pureAt_of (ex_load rfl (load1 (nagg_88 _) (St.cell (St.tells S34 hCw42) (i := 0) rfl (lanes_at (Nat.lt_of_lt_of_eq (show (((k2 % 5) + 4) % 5) < 5 by omega) (cL_len _ _).symm)))))) ?_
   simp only [pS, pN, pA, pC, pZ]
   refine gw_pure rfl rfl (.int .i64 (((k2 % 5) : Nat) : Int)) (fun w42 hCw42 => pureAt_of (ex_move _)) ?_
   simp only [pS, pN, pA, pC, pZ]
   refine gw_pure rfl rfl (.int .i64 ((((k2 % 5) + 1) : Nat) : Int)) (fun w42 hCw42 => pureAt_of (ex_add (m := (((k2 % 5) : Nat) : Int)) (n := (1 : Int)) (r := ((((k2 % 5) + 1) : Nat) : Int)) rfl rfl (by omega) (by omega) (by omega))) ?_
   simp only [pS, pN, pA, pC, pZ]
   refine gw_pure rfl rfl (.int .i64 (((((k2 % 5) + 1) % 5) : Nat) : Int)) (fun w42 hCw42 => pureAt_of (ex_remA (m := ((k2 % 5) + 1)) (n := 5) rfl rfl (by decide) (by omega))) ?_
   simp only [pS, pN, pA, pC, pZ]
   refine gw_pure rfl rfl (.pointer (some ⟨n2, (((k2 % 5) + 1) % 5), none⟩)) (fun w42 hCw42 => pureAt_of (ex_atA (i := (((k2 % 5) + 1) % 5)) Tryd.underlying107 (sizeof_88 _) rfl rfl (by omega))) ?_
   simp only [pS, pN, pA, pC, pZ]
   refine gw_pure rfl rfl (laneV (at0 (cL Z 5) (((k2 % 5) + 1) % 5))) (fun w42 hCw42 => pureAt_of (ex_load rfl (load1 (nagg_88 _) (St.cell (St.tells S34 hCw42) (i := 0) rfl (lanes_at (Nat.lt_of_lt_of_eq (show (((k2 % 5) + 1) % 5) < 5 by omega) (cL_len _ _).symm)))))) ?_
   simp only [pS, pN, pA, pC, pZ]
   refine gw_const rfl rfl (v := (laneV (turnL (at0 (cL Z 5) (((k2 % 5) + 1) % 5)) 1))) (fun w42 hCw42 _ => does_call (ex_fn (vs := #[(laneV (at0 (cL Z 5) (((k2 % 5) + 1) % 5))), (.int .i64 1)]) (map2 rfl rfl) rfl (ent_64 _ _)) (call_tells (turn_spec _ (at0 (cL Z 5) (((k2 % 5) + 1) % 5)) 1 (by decide) (by decide)))) ?_
   simp only [pS, pN, pA, pC, pZ]
   refine gw_pure rfl rfl (laneV ((at0 (cL Z 5) (((k2 % 5) + 4) % 5)) ^^^ (turnL (at0 (cL Z 5) (((k2 % 5) + 1) % 5)) 1))) (fun w42 hCw42 => pureAt_of (ex_xorL rfl rfl)) ?_
   simp only [pS, pN, pA, pC, pZ]
   refine gw_pure rfl rfl (laneV ((at0 (thL Z (cL Z 5) k2) k2) ^^^ ((at0 (cL Z 5) (((k2 % 5) + 4) % 5)) ^^^ (turnL (at0 (cL Z 5) (((k2 % 5) + 1) % 5)) 1)))) (fun w42 hCw42 => pureAt_of (ex_xorL rfl rfl)) ?_
   simp only [pS, pN, pA, pC, pZ]
   refine gw_pure rfl rfl (.pointer (some ⟨rb, 0, none⟩)) (fun w42 hCw42 => pureAt_of (ex_nil rfl)) ?_
   simp only [pS, pN, pA, pC, pZ]
   refine gw_nil ?_
   intro w43 hC45 hF46
   clear hF46
   have S44 := St.tells S34 hC45
   simp only [List.drop_succ_cons, List.drop_zero]
   refine do_ rfl (.pointer (some ⟨rb, k2, none⟩)) (ex_atA (i := k2) Tryd.underlying90 (sizeof_88 _) rfl rfl (by omega)) ?_
   simp only [pS, pN, pA, pC, pZ]
   refine stStore (i := 1) (v := laneV ((at0 (thL Z (cL Z 5) k2) k2) ^^^ ((at0 (cL Z 5) (((k2 % 5) + 4) % 5)) ^^^ (turnL (at0 (cL Z 5) (((k2 % 5) + 1) % 5)) 1)))) S44 rfl rfl rfl rfl (size_88) (allc1 rfl) (by rw [List.length_map, (thL_len _ _ _)]; show k2 + 1 ≤ 25; omega) (fun w47 S48 => ?_)
   simp only [pS, pN, pA, pC, pZ]
   have S48 : St w0 F0 w47 F (⟨n2, ((cL Z 5).map laneV), 107⟩ :: ⟨rb, (splice ((thL Z (cL Z 5) k2).map laneV) k2 [laneV ((at0 (thL Z (cL Z 5) k2) k2) ^^^ ((at0 (cL Z 5) (((k2 % 5) + 4) % 5)) ^^^ (turnL (at0 (cL Z 5) (((k2 % 5) + 1) % 5)) 1)))]), 90⟩ :: L0) (M0) := S48
   rw [lanes_set (Nat.lt_of_lt_of_eq (show k2 < 25 by omega) (thL_len _ _ _).symm)] at S48
   rw [thL_at (S := Z) (C := (cL Z 5)) (i := k2) (by omega)] at S48
   have S48 : St w0 F0 w47 F (⟨n2, ((cL Z 5).map laneV), 107⟩ :: ⟨rb, (((thL Z (cL Z 5) k2).set k2 (thAt Z (cL Z 5) k2)).map laneV), 90⟩ :: L0) (M0) := S48
   rw [thL_step Z _ (by omega)] at S48
   refine wl_nil (hK39 _ _ ?_)
   refine region_wl ?_
   refine do_ rfl (.int .i64 (((k2 + 1) : Nat) : Int)) (ex_add (m := ((k2 : Nat) : Int)) (n := (1 : Int)) (r := (((k2 + 1) : Nat) : Int)) rfl rfl (by omega) (by omega) (by omega)) ?_
   simp only [pS, pN, pA, pC, pZ]
   refine do_ rfl (.int .i64 (((k2 + 1) : Nat) : Int)) (ex_move _) ?_
   simp only [pS, pN, pA, pC, pZ]
   refine wl_nil ?_
   exact hK36 _ _ _ (by omega) ⟨(k2 + 1), _, rfl, rfl, rfl, S48, (by omega)⟩
  ·refine do_ rfl (.bool false) (ex_lss (m := ((k2 : Nat) : Int)) (n := (25 : Int)) (b := false) rfl rfl (decide_eq_false (by omega))) ?_
   simp only [pS, pN, pA, pC, pZ]
   refine wl_nil (hK37 _ _ ?_)
   refine wp_seq_k (fun K49 hK49 => ?_)
   refine wp_cond_false rfl ?_
   refine wp_exit ?_
   refine hK27 _ _ ?_
   refine wp_seq_k (fun K50 hK50 => ?_)
   obtain rfl : k2 = 25 := by omega
   obtain ⟨A, hA⟩ : ∃ A, A = thL Z (cL Z 5) 25 := ⟨_, rfl⟩
   have hAl : A.length = 25 := by rw [hA]; exact thL_len _ _ _
   rw [← hA] at S34
   refine region_wl ?_
   refine do_ rfl (.pointer (some ⟨rb, 0, none⟩)) (ex_move _) ?_
   simp only [pS, pN, pA, pC, pZ]
   refine do_ rfl (.pointer (some ⟨rb, 0, none⟩)) (ex_nil rfl) ?_
   simp only [pS, pN, pA, pC, pZ]
   refine do_ rfl (.pointer (some ⟨rb, 1, none⟩)) (ex_atA (i := 1) Tryd.underlying90 (sizeof_88 _) rfl rfl (by omega)) ?_
   simp only [pS, pN, pA, pC, pZ]
   refine do_ rfl (laneV (at0 A 1)) (ex_load rfl (load1 (nagg_88 _) (St.cell S34 (i := 1) rfl (lanes_at (Nat.lt_of_lt_of_eq (show 1 < 25 by omega) hAl.symm))))) ?_
   simp only [pS, pN, pA, pC, pZ]
   refine do_ rfl (laneV (at0 A 1)) (ex_assign _) ?_
   simp only [pS, pN, pA, pC, pZ]
   refine wl_nil (hK50 _ _ ?_)
   refine wp_seq_k (fun K51 hK51 => ?_)
   refine wp_seq_k (fun K52 hK52 => region_wl ?_)
   refine do_ rfl (.agg goesV) (ex_load rfl (goes_load (hT.at S34.gr.below))) ?_
   simp only [pS, pN, pA, pC, pZ]
   refine do_ rfl (.int .i64 0) (ex_move _) ?_
   simp only [pS, pN, pA, pC, pZ]
   refine wl_nil (hK52 _ _ ?_)
   refine wp_block ?_
   have S34 : St w0 F0 w33 F (⟨n2, ((cL Z 5).map laneV), 107⟩ :: ⟨rb, ((rhoL A 0).1.map laneV), 90⟩ :: L0) (M0) := S34
   refine wp_loop_g (fun mm aa w54 => ∃ (k3 : Nat) (u53 : Nat → Value), mm = 24 - k3 ∧ u53 = slots aa ∧ aa = ⟨#[(.pointer (some ⟨rb, 0, none⟩)), (.int .i64 ((r : Nat) : Int)), undef, undef, (.pointer (some ⟨n2, 0, none⟩)), (u7 5), (u29 6), (u29 7), (laneV (rhoL A k3).2), (u53 9), (u53 10), undef, undef, undef, (.int .i64 5), (.bool false), (u7 16), (u7 17), (u7 18), (u7 19), (u7 20), (u7 21), (u7 22), (u7 23), (u7 24), (u7 25), (u7 26), (u7 27), (u7 28), (u7 29), (u7 30), (u7 31), (u7 32), (u7 33), (u7 34), (u7 35), (u7 36), (u7 37), (u7 38), (u7 39), (u7 40), (u7 41), (u7 42), (u7 43), (u7 44), (u7 45), (u7 46), (u7 47), (u7 48), (u7 49), (u7 50), (u7 51), (u7 52), (.int .i64 25), (.bool false), (u29 55), (u29 56), (u29 57), (u29 58), (u29 59), (u29 60), (u29 61), (u29 62), (u29 63), (u29 64), (u29 65), (u29 66), (u29 67), (u29 68), (u29 69), (u29 70), (u29 71), (u29 72), (u29 73), (u29 74), (u29 75), (u29 76), (u29 77), (u29 78), (.pointer (some ⟨rb, 0, none⟩)), (.pointer (some ⟨rb, 0, none⟩)), (.pointer (some ⟨rb, 1, none⟩)), (laneV (at0 A 1)), (.agg goesV), (.int .i64 ((k3 : Nat) : Int)), (u53 85), (u53 86), (u53 87), (u53 88), (u53 89), (u53 90), (u53 91), (u53 92), (u53 93), (u53 94), (u53 95), (u53 96), (u53 97), (u53 98), (u53 99), (u53 100), (u53 101), (u53 102), undef, undef, undef, undef, undef, undef, undef, undef, undef, undef, undef, undef, undef, undef, undef, undef, undef, undef, undef, undef, undef, undef, undef, undef, undef, undef, undef, undef, undef, undef, undef, undef, undef, undef, undef, undef, undef, undef, undef, undef, undef, undef, undef, undef, undef, undef, undef, undef], []⟩ ∧ St w0 F0 w54 F (⟨n2, ((cL Z 5).map laneV), 107⟩ :: ⟨rb, ((rhoL A k3).1.map laneV), 90⟩ :: L0) (M0) ∧ (k3 ≤ 24)) _ ⟨0, _, rfl, rfl, rfl, S34, (by omega)⟩ ?_
   rintro m55 a56 w57 ⟨k3, u53, rfl, -, rfl, S58, hk3⟩ K60 hK60
   refine wp_seq_k (fun K61 hK61 => region_wl ?_)
   by_cases hc85 : k3 < 24
   ·refine do_ rfl (.bool true) (ex_lss (m := ((k3 : Nat) : Int)) (n := (24 : Int)) (b := true) rfl rfl (decide_eq_true (by omega))) ?_
    simp only [pS, pN, pA, pC, pZ]
    refine wl_nil (hK61 _ _ ?_)
    refine wp_seq_k (fun K62 hK62 => ?_)
    refine wp_cond_true rfl ?_
    refine wp_skip ?_
    refine hK62 _ _ ?_
    refine wp_seq_k (fun K63 hK63 => ?_)
    refine wp_block ?_
    refine wp_seq_k (fun K64 hK64 => ?_)
    have hgo := goesN_bd k3 (by omega)
    refine region_wl ?_
    refine do_ rfl (.int .i64 ((k3 : Nat) : Int)) (ex_move _) ?_
    simp only [pS, pN, pA, pC, pZ]
    refine do_ rfl (.int .i64 (((goesN k3) : Nat) : Int)) (ex_ixA (i := k3) Tryd.underlying109 (sizeof_3 _) rfl rfl (by omega) (nagg_3 _) (goes_at (by omega))) ?_
    simp only [pS, pN, pA, pC, pZ]
    refine do_ rfl (.int .i64 ((k3 : Nat) : Int)) (ex_assign _) ?_
    simp only [pS, pN, pA, pC, pZ]
    refine do_ rfl (.int .i64 (((goesN k3) : Nat) : Int)) (ex_assign _) ?_
    simp only [pS, pN, pA, pC, pZ]
    refine wl_nil (hK64 _ _ ?_)
    refine region_gw F 13 [(6, .is (laneV (turnL ((rhoL A k3).2) (turnsN k3))))] (by kernel_rfl) (by kernel_rfl) ?_
    simp only [List.take_succ_cons, List.take_zero]
    refine gw_pure rfl rfl (.pointer (some ⟨rb, 0, none⟩)) (fun w65 hCw65 => pureAt_of (ex_move _)) ?_
    simp only [pS, pN, pA, pC, pZ]
    refine gw_pure rfl rfl (.int .i64 (((goesN k3) : Nat) : Int)) (fun w65 hCw65 => pureAt_of (ex_move _)) ?_
    simp only [pS, pN, pA, pC, pZ]
    refine gw_pure rfl rfl (laneV (rhoL A k3).2) (fun w65 hCw65 => pureAt_of (ex_move _)) ?_
    simp only [pS, pN, pA, pC, pZ]
    refine gw_pure rfl rfl (.int .i64 ((k3 : Nat) : Int)) (fun w65 hCw65 => pureAt_of (ex_move _)) ?_
    simp only [pS, pN, pA, pC, pZ]
    refine gw_pure rfl rfl (.pointer (some ⟨1, k3, none⟩)) (fun w65 hCw65 => pureAt_of (ex_atA (i := k3) Tryd.underlying109 (sizeof_3 _) rfl rfl (by omega))) ?_
    simp only [pS, pN, pA, pC, pZ]
    refine gw_pure rfl rfl (.int .i64 (((turnsN k3) : Nat) : Int)) (fun w65 hCw65 => pureAt_of (ex_load rfl (load1 (nagg_3 _) (((hT.at (St.tells S58 hCw65).gr.below).2.1 k3 (by omega)))))) ?_
    simp only [pS, pN, pA, pC, pZ]
    refine gw_const rfl rfl (v := (laneV (turnL ((rhoL A k3).2) (turnsN k3)))) (fun w65 hCw65 _ => does_call (ex_fn (vs := #[(laneV (rhoL A k3).2), (.int .i64 (((turnsN k3) : Nat) : Int))]) (map2 rfl rfl) rfl (ent_64 _ _)) (call_tells (turn_spec _ ((rhoL A k3).2) (turnsN k3) (turnsN_bd _ (by omega)).1 (turnsN_bd _ (by omega)).2))) ?_
    simp only [pS, pN, pA, pC, pZ]
    refine gw_pure rfl rfl (.pointer (some ⟨rb, 0, none⟩)) (fun w65 hCw65 => pureAt_of (ex_move _)) ?_
    simp only [pS, pN, pA, pC, pZ]
    refine gw_pure rfl rfl (.int .i64 (((goesN k3) : Nat) : Int)) (fun w65 hCw65 => pureAt_of (ex_move _)) ?_
    simp only [pS, pN, pA, pC, pZ]
    refine gw_pure rfl rfl (.pointer (some ⟨rb, 0, none⟩)) (fun w65 hCw65 => pureAt_of (ex_nil rfl)) ?_
    simp only [pS, pN, pA, pC, pZ]
    refine gw_pure rfl rfl (.pointer (some ⟨rb, (goesN k3), none⟩)) (fun w65 hCw65 => pureAt_of (ex_atA (i := (goesN k3)) Tryd.underlying90 (sizeof_88 _) rfl rfl (by omega))) ?_
    simp only [pS, pN, pA, pC, pZ]
    refine gw_pure rfl rfl (laneV (at0 ((rhoL A k3).1) (goesN k3))) (fun w65 hCw65 => pureAt_of (ex_load rfl (load1 (nagg_88 _) (St.cell (St.tells S58 hCw65) (i := 1) rfl (lanes_at (Nat.lt_of_lt_of_eq (show (goesN k3) < 25 by omega) (rhoL_len hAl _).symm)))))) ?_
    simp only [pS, pN, pA, pC, pZ]
    refine gw_pure rfl rfl (.pointer (some ⟨rb, 0, none⟩)) (fun w65 hCw65 => pureAt_of (ex_nil rfl)) ?_
    simp only [pS, pN, pA, pC, pZ]
    refine gw_nil ?_
    intro w66 hC68 hF69
    clear hF69
    have S67 := St.tells S58 hC68
    simp only [List.drop_succ_cons, List.drop_zero]
    refine do_ rfl (.pointer (some ⟨rb, (goesN k3), none⟩)) (ex_atA (i := (goesN k3)) Tryd.underlying90 (sizeof_88 _) rfl rfl (by omega)) ?_
    simp only [pS, pN, pA, pC, pZ]
    refine stStore (i := 1) (v := laneV (turnL ((rhoL A k3).2) (turnsN k3))) S67 rfl rfl rfl rfl (size_88) (allc1 rfl) (by rw [List.length_map, (rhoL_len hAl _)]; show (goesN k3) + 1 ≤ 25; omega) (fun w70 S71 => ?_)
    simp only [pS, pN, pA, pC, pZ]
    have S71 : St w0 F0 w70 F (⟨n2, ((cL Z 5).map laneV), 107⟩ :: ⟨rb, (splice (((rhoL A k3).1).map laneV) (goesN k3) [laneV (turnL ((rhoL A k3).2) (turnsN k3))]), 90⟩ :: L0) (M0) := S71
    rw [lanes_set (Nat.lt_of_lt_of_eq (show (goesN k3) < 25 by omega) (rhoL_len hAl _).symm)] at S71
    rw [rho_one] at S71
    refine do_ rfl (laneV (at0 ((rhoL A k3).1) (goesN k3))) (ex_assign _) ?_
    simp only [pS, pN, pA, pC, pZ]
    refine wl_nil (hK63 _ _ ?_)
    refine region_wl ?_
    refine do_ rfl (.int .i64 (((k3 + 1) : Nat) : Int)) (ex_add (m := ((k3 : Nat) : Int)) (n := (1 : Int)) (r := (((k3 + 1) : Nat) : Int)) rfl rfl (by omega) (by omega) (by omega)) ?_
    simp only [pS, pN, pA, pC, pZ]
    refine do_ rfl (.int .i64 (((k3 + 1) : Nat) : Int)) (ex_move _) ?_
    simp only [pS, pN, pA, pC, pZ]
    refine wl_nil ?_
    exact hK60 _ _ _ (by omega) ⟨(k3 + 1), _, rfl, rfl, rfl, S71, (by omega)⟩
   ·refine do_ rfl (.bool false) (ex_lss (m := ((k3 : Nat) : Int)) (n := (24 : Int)) (b := false) rfl rfl (decide_eq_false (by omega))) ?_
    simp only [pS, pN, pA, pC, pZ]
    refine wl_nil (hK61 _ _ ?_)
    refine wp_seq_k (fun K72 hK72 => ?_)
    refine wp_cond_false rfl ?_
    refine wp_exit ?_
    refine hK51 _ _ ?_
    refine wp_seq_k (fun K73 hK73 => ?_)
    refine wp_seq_k (fun K74 hK74 => ?_)
    obtain rfl : k3 = 24 := by omega
    obtain ⟨Q, hQ⟩ : ∃ Q, Q = (rhoL A 24).1 := ⟨_, rfl⟩
    have hQl : Q.length = 25 := by rw [hQ]; exact rhoL_len hAl _
    rw [← hQ] at S58
    refine region_wl ?_
    refine do_ rfl (.int .i64 0) (ex_assign _) ?_
    simp only [pS, pN, pA, pC, pZ]
    refine wl_nil (hK74 _ _ ?_)
    refine wp_block ?_
    have S58 : St w0 F0 w57 F (⟨n2, ((cL Z 5).map laneV), 107⟩ :: ⟨rb, ((chiK Q 0).map laneV), 90⟩ :: L0) (M0) := by rw [chiK_zero hQl]; exact S58
    refine wp_loop_g (fun mm aa w76 => ∃ (y : Nat) (u75 : Nat → Value), mm = 25 - y ∧ u75 = slots aa ∧ aa = ⟨#[(.pointer (some ⟨rb, 0, none⟩)), (.int .i64 ((r : Nat) : Int)), undef, undef, (.pointer (some ⟨n2, 0, none⟩)), (u7 5), (u29 6), (u29 7), (laneV (rhoL A 24).2), (u53 9), (u53 10), (.int .i64 ((y : Nat) : Int)), (u75 12), (u75 13), (.int .i64 5), (.bool false), (u7 16), (u7 17), (u7 18), (u7 19), (u7 20), (u7 21), (u7 22), (u7 23), (u7 24), (u7 25), (u7 26), (u7 27), (u7 28), (u7 29), (u7 30), (u7 31), (u7 32), (u7 33), (u7 34), (u7 35), (u7 36), (u7 37), (u7 38), (u7 39), (u7 40), (u7 41), (u7 42), (u7 43), (u7 44), (u7 45), (u7 46), (u7 47), (u7 48), (u7 49), (u7 50), (u7 51), (u7 52), (.int .i64 25), (.bool false), (u29 55), (u29 56), (u29 57), (u29 58), (u29 59), (u29 60), (u29 61), (u29 62), (u29 63), (u29 64), (u29 65), (u29 66), (u29 67), (u29 68), (u29 69), (u29 70), (u29 71), (u29 72), (u29 73), (u29 74), (u29 75), (u29 76), (u29 77), (u29 78), (.pointer (some ⟨rb, 0, none⟩)), (.pointer (some ⟨rb, 0, none⟩)), (.pointer (some ⟨rb, 1, none⟩)), (laneV (at0 A 1)), (.agg goesV), (.int .i64 24), (.bool false), (u53 86), (u53 87), (u53 88), (u53 89), (u53 90), (u53 91), (u53 92), (u53 93), (u53 94), (u53 95), (u53 96), (u53 97), (u53 98), (u53 99), (u53 100), (u53 101), (u53 102), (u75 103), (u75 104), (u75 105), (u75 106), (u75 107), (u75 108), (u75 109), (u75 110), (u75 111), (u75 112), (u75 113), (u75 114), (u75 115), (u75 116), (u75 117), (u75 118), (u75 119), (u75 120), (u75 121), (u75 122), (u75 123), (u75 124), (u75 125), (u75 126), (u75 127), (u75 128), (u75 129), (u75 130), (u75 131), (u75 132), (u75 133), (u75 134), (u75 135), (u75 136), (u75 137), (u75 138), (u75 139), (u75 140), undef, undef, undef, undef, undef, undef, undef, undef, undef, undef], []⟩ ∧ St w0 F0 w76 F (⟨n2, ((cL Z 5).map laneV), 107⟩ :: ⟨rb, ((chiK Q y).map laneV), 90⟩ :: L0) (M0) ∧ (y % 5 = 0) ∧ (y ≤ 25)) _ ⟨0, _, rfl, rfl, rfl, S58, (by omega), (by omega)⟩ ?_
    rintro m77 a78 w79 ⟨y, u75, rfl, -, rfl, S80, hy5, hy25⟩ K82 hK82
    refine wp_seq_k (fun K83 hK83 => ?_)
    refine wp_seq_k (fun K84 hK84 => region_wl ?_)
    refine do_ rfl (.int .i64 ((y : Nat) : Int)) (ex_move _) ?_
    simp only [pS, pN, pA, pC, pZ]
    by_cases hc104 : y < 25
    ·refine do_ rfl (.bool true) (ex_lss (m := ((y : Nat) : Int)) (n := (25 : Int)) (b := true) rfl rfl (decide_eq_true (by omega))) ?_
     simp only [pS, pN, pA, pC, pZ]
     refine wl_nil (hK84 _ _ ?_)
     refine wp_cond_true rfl ?_
     refine wp_skip ?_
     refine hK83 _ _ ?_
     refine wp_seq_k (fun K85 hK85 => ?_)
     refine wp_block ?_
     refine wp_seq_k (fun K86 hK86 => region_wl ?_)
     refine do_ rfl (.pointer (some ⟨rb, 0, none⟩)) (ex_move _) ?_
     simp only [pS, pN, pA, pC, pZ]
     refine do_ rfl (.pointer (some ⟨rb, 0, none⟩)) (ex_nil rfl) ?_
     simp only [pS, pN, pA, pC, pZ]
     refine do_ rfl (.int .i64 ((y : Nat) : Int)) (ex_move _) ?_
     simp only [pS, pN, pA, pC, pZ]
     refine do_ rfl (.int .i64 ((y : Nat) : Int)) (ex_move _) ?_
     simp only [pS, pN, pA, pC, pZ]
     refine do_ rfl (.int .i64 (((y + 5) : Nat) : Int)) (ex_add (m := ((y : Nat) : Int)) (n := (5 : Int)) (r := (((y + 5) : Nat) : Int)) rfl rfl (by omega) (by omega) (by omega)) ?_
     simp only [pS, pN, pA, pC, pZ]
     refine do_ rfl (.slice (some ⟨rb, y, none⟩) ((y + 5) - y) (25 - y)) (ex_sliceA (l := y) (h := (y + 5)) Tryd.underlying90 rfl (sizeof_88 _) rfl rfl (by omega) (by omega) (by omega)) ?_
     simp only [pS, pN, pA, pC, pZ]
     refine do_ rfl (.pointer (some ⟨rb, y, none⟩)) (ex_s2a Tryd.underlying107 rfl (by omega)) ?_
     simp only [pS, pN, pA, pC, pZ]
     refine do_ rfl (.agg #[(laneV (at0 (chiK Q y) y)), (laneV (at0 (chiK Q y) (y + 1))), (laneV (at0 (chiK Q y) (y + 2))), (laneV (at0 (chiK Q y) (y + 3))), (laneV (at0 (chiK Q y) (y + 4)))]) (ex_load rfl (row_load (St.cellsAt S80 (i := 1) rfl) (show y + 5 ≤ (chiK Q y).length from by rw [(chiK_len _ _)]; omega))) ?_
     simp only [pS, pN, pA, pC, pZ]
     refine stNew S80 (v := fun n => .pointer (some ⟨n, 0, none⟩)) rfl (ex_alloc (zero_107 _)) (fun n87 w88 S89 => ?_)
     simp only [pS, pN, pA, pC, pZ]
     have S89 : St w0 F0 w88 F (⟨n87, [(laneV 0), (laneV 0), (laneV 0), (laneV 0), (laneV 0)], 107⟩ :: ⟨n2, ((cL Z 5).map laneV), 107⟩ :: ⟨rb, ((chiK Q y).map laneV), 90⟩ :: L0) (M0) := S89
     refine stStore (i := 0) (v := (.agg #[(laneV (at0 (chiK Q y) y)), (laneV (at0 (chiK Q y) (y + 1))), (laneV (at0 (chiK Q y) (y + 2))), (laneV (at0 (chiK Q y) (y + 3))), (laneV (at0 (chiK Q y) (y + 4)))])) S89 rfl rfl rfl rfl (size_107) (allc5 rfl rfl rfl rfl rfl) (Nat.le_of_ble_eq_true rfl) (fun w90 S91 => ?_)
     simp only [pS, pN, pA, pC, pZ]
     have S91 : St w0 F0 w90 F (⟨n87, [(laneV (at0 (chiK Q y) y)), (laneV (at0 (chiK Q y) (y + 1))), (laneV (at0 (chiK Q y) (y + 2))), (laneV (at0 (chiK Q y) (y + 3))), (laneV (at0 (chiK Q y) (y + 4)))], 107⟩ :: ⟨n2, ((cL Z 5).map laneV), 107⟩ :: ⟨rb, ((chiK Q y).map laneV), 90⟩ :: L0) (M0) := S91
     refine wl_nil (hK86 _ _ ?_)
     refine wp_seq_k (fun K92 hK92 => region_wl ?_)
     refine do_ rfl (.int .i64 0) (ex_move _) ?_
     simp only [pS, pN, pA, pC, pZ]
     refine wl_nil (hK92 _ _ ?_)
     refine wp_block ?_
     have S91 : St w0 F0 w90 F (⟨n87, ((rowL (chiK Q y) y).map laneV), 107⟩ :: ⟨n2, ((cL Z 5).map laneV), 107⟩ :: ⟨rb, ((chiK Q y).map laneV), 90⟩ :: L0) (M0) := S91
     rw [rowL_chi (by omega)] at S91
     have S91 : St w0 F0 w90 F (⟨n87, ((rowL Q y).map laneV), 107⟩ :: ⟨n2, ((cL Z 5).map laneV), 107⟩ :: ⟨rb, ((chiK Q (y + 0)).map laneV), 90⟩ :: L0) (M0) := S91
     refine wp_loop_g (fun mm aa w94 => ∃ (k5 : Nat) (u93 : Nat → Value), mm = 5 - k5 ∧ u93 = slots aa ∧ aa = ⟨#[(.pointer (some ⟨rb, 0, none⟩)), (.int .i64 ((r : Nat) : Int)), undef, undef, (.pointer (some ⟨n2, 0, none⟩)), (u7 5), (u29 6), (u29 7), (laneV (rhoL A 24).2), (u53 9), (u53 10), (.int .i64 ((y : Nat) : Int)), (.pointer (some ⟨n87, 0, none⟩)), (u93 13), (.int .i64 5), (.bool false), (u7 16), (u7 17), (u7 18), (u7 19), (u7 20), (u7 21), (u7 22), (u7 23), (u7 24), (u7 25), (u7 26), (u7 27), (u7 28), (u7 29), (u7 30), (u7 31), (u7 32), (u7 33), (u7 34), (u7 35), (u7 36), (u7 37), (u7 38), (u7 39), (u7 40), (u7 41), (u7 42), (u7 43), (u7 44), (u7 45), (u7 46), (u7 47), (u7 48), (u7 49), (u7 50), (u7 51), (u7 52), (.int .i64 25), (.bool false), (u29 55), (u29 56), (u29 57), (u29 58), (u29 59), (u29 60), (u29 61), (u29 62), (u29 63), (u29 64), (u29 65), (u29 66), (u29 67), (u29 68), (u29 69), (u29 70), (u29 71), (u29 72), (u29 73), (u29 74), (u29 75), (u29 76), (u29 77), (u29 78), (.pointer (some ⟨rb, 0, none⟩)), (.pointer (some ⟨rb, 0, none⟩)), (.pointer (some ⟨rb, 1, none⟩)), (laneV (at0 A 1)), (.agg goesV), (.int .i64 24), (.bool false), (u53 86), (u53 87), (u53 88), (u53 89), (u53 90), (u53 91), (u53 92), (u53 93), (u53 94), (u53 95), (u53 96), (u53 97), (u53 98), (u53 99), (u53 100), (u53 101), (u53 102), (.int .i64 ((y : Nat) : Int)), (.bool true), (u75 105), (u75 106), (.pointer (some ⟨rb, 0, none⟩)), (.pointer (some ⟨rb, 0, none⟩)), (.int .i64 ((y : Nat) : Int)), (.int .i64 ((y : Nat) : Int)), (.int .i64 (((y + 5) : Nat) : Int)), (.slice (some ⟨rb, y, none⟩) ((y + 5) - y) (25 - y)), (.pointer (some ⟨rb, y, none⟩)), (.agg #[(laneV (at0 (chiK Q y) y)), (laneV (at0 (chiK Q y) (y + 1))), (laneV (at0 (chiK Q y) (y + 2))), (laneV (at0 (chiK Q y) (y + 3))), (laneV (at0 (chiK Q y) (y + 4)))]), (.int .i64 ((k5 : Nat) : Int)), (u93 116), (u93 117), (u93 118), (u93 119), (u93 120), (u93 121), (u93 122), (u93 123), (u93 124), (u93 125), (u93 126), (u93 127), (u93 128), (u93 129), (u93 130), (u93 131), (u93 132), (u93 133), (u93 134), (u93 135), (u93 136), (u93 137), (u93 138), (u93 139), (u93 140), undef, undef, undef, undef, undef, undef, undef, undef, undef, undef], []⟩ ∧ St w0 F0 w94 F (⟨n87, ((rowL Q y).map laneV), 107⟩ :: ⟨n2, ((cL Z 5).map laneV), 107⟩ :: ⟨rb, ((chiK Q (y + k5)).map laneV), 90⟩ :: L0) (M0) ∧ (k5 ≤ 5)) _ ⟨0, _, rfl, rfl, rfl, S91, (by omega)⟩ ?_
     rintro m95 a96 w97 ⟨k5, u93, rfl, -, rfl, S98, hk5⟩ K100 hK100
     refine wp_seq_k (fun K101 hK101 => region_wl ?_)
     by_cases hc116 : k5 < 5
     ·refine do_ rfl (.bool true) (ex_lss (m := ((k5 : Nat) : Int)) (n := (5 : Int)) (b := true) rfl rfl (decide_eq_true (by omega))) ?_
      simp only [pS, pN, pA, pC, pZ]
      refine wl_nil (hK101 _ _ ?_)
      refine wp_seq_k (fun K102 hK102 => ?_)
      refine wp_cond_true rfl ?_
      refine wp_skip ?_
      refine hK102 _ _ ?_
      refine wp_seq_k (fun K103 hK103 => ?_)
      refine wp_block ?_
      refine wp_seq_k (fun K104 hK104 => region_wl ?_)
      refine do_ rfl (.int .i64 ((k5 : Nat) : Int)) (ex_move _) ?_
      simp only [pS, pN, pA, pC, pZ]
      refine do_ rfl (.int .i64 ((k5 : Nat) : Int)) (ex_assign _) ?_
      simp only [pS, pN, pA, pC, pZ]
      refine wl_nil (hK104 _ _ ?_)
      refine region_gw F 21 [] (by kernel_rfl) (by kernel_rfl) ?_
      simp only [List.take_succ_cons, List.take_zero]
      refine gw_pure rfl rfl (.pointer (some ⟨rb, 0, none⟩)) (fun w105 hCw105 => pureAt_of (ex_move _)) ?_
      simp only [pS, pN, pA, pC, pZ]
      refine gw_pure rfl rfl (.int .i64 ((y : Nat) : Int)) (fun w105 hCw105 => pureAt_of (ex_move _)) ?_
      simp only [pS, pN, pA, pC, pZ]
      refine gw_pure rfl rfl (.int .i64 ((k5 : Nat) : Int)) (fun w105 hCw105 => pureAt_of (ex_move _)) ?_
      simp only [pS, pN, pA, pC, pZ]
      refine gw_pure rfl rfl (.int .i64 (((y + k5) : Nat) : Int)) (fun w105 hCw105 => pureAt_of (ex_add (m := ((y : Nat) : Int)) (n := ((k5 : Nat) : Int)) (r := (((y + k5) : Nat) : Int)) rfl rfl (by omega) (by omega) (by omega))) ?_
      simp only [pS, pN, pA, pC, pZ]
      refine gw_pure rfl rfl (.int .i64 ((k5 : Nat) : Int)) (fun w105 hCw105 => pureAt_of (ex_move _)) ?_
      simp only [pS, pN, pA, pC, pZ]
      refine gw_pure rfl rfl (.pointer (some ⟨n87, k5, none⟩)) (fun w105 hCw105 => pureAt_of (ex_atA (i := k5) Tryd.underlying107 (sizeof_88 _) rfl rfl (by omega))) ?_
      simp only [pS, pN, pA, pC, pZ]
      refine gw_pure rfl rfl (laneV (at0 (rowL Q y) k5)) (fun w105 hCw105 => pureAt_of (ex_load rfl (load1 (nagg_88 _) (St.cell (St.tells S98 hCw105) (i := 0) rfl (lanes_at (Nat.lt_of_lt_of_eq (show k5 < 5 by omega) (rowL_len _ _).symm)))))) ?_
      simp only [pS, pN, pA, pC, pZ]
      refine gw_pure rfl rfl (.int .i64 ((k5 : Nat) : Int)) (fun w105 hCw105 => pureAt_of (ex_move _)) ?_
      simp only [pS, pN, pA, pC, pZ]
      refine gw_pure rfl rfl (.int .i64 (((k5 + 1) : Nat) : Int)) (fun w105 hCw105 => pureAt_of (ex_add (m := ((k5 : Nat) : Int)) (n := (1 : Int)) (r := (((k5 + 1) : Nat) : Int)) rfl rfl (by omega) (by omega) (by omega))) ?_
      simp only [pS, pN, pA, pC, pZ]
      refine gw_pure rfl rfl (.int .i64 ((((k5 + 1) % 5) : Nat) : Int)) (fun w105 hCw105 => pureAt_of (ex_remA (m := (k5 + 1)) (n := 5) rfl rfl (by decide) (by omega))) ?_
      simp only [pS, pN, pA, pC, pZ]
      refine gw_pure rfl rfl (.pointer (some ⟨n87, ((k5 + 1) % 5), none⟩)) (fun w105 hCw105 => pureAt_of (ex_atA (i := ((k5 + 1) % 5)) Tryd.underlying107 (sizeof_88 _) rfl rfl (by omega))) ?_
      simp only [pS, pN, pA, pC, pZ]
      refine gw_pure rfl rfl (laneV (at0 (rowL Q y) ((k5 + 1) % 5))) (fun w105 hCw105 => pureAt_of (ex_load rfl (load1 (nagg_88 _) (St.cell (St.tells S98 hCw105) (i := 0) rfl (lanes_at (Nat.lt_of_lt_of_eq (show ((k5 + 1) % 5) < 5 by omega) (rowL_len _ _).symm)))))) ?_
      simp only [pS, pN, pA, pC, pZ]
      refine gw_pure rfl rfl (laneV (~~~ (at0 (rowL Q y) ((k5 + 1) % 5)))) (fun w105 hCw105 => pureAt_of (ex_notL rfl)) ?_
      simp only [pS, pN, pA, pC, pZ]
      refine gw_pure rfl rfl (.int .i64 ((k5 : Nat) : Int)) (fun w105 hCw105 => pureAt_of (ex_move _)) ?_
      simp only [pS, pN, pA, pC, pZ]
      refine gw_pure rfl rfl (.int .i64 (((k5 + 2) : Nat) : Int)) (fun w105 hCw105 => pureAt_of (ex_add (m := ((k5 : Nat) : Int)) (n := (2 : Int)) (r := (((k5 + 2) : Nat) : Int)) rfl rfl (by omega) (by omega) (by omega))) ?_
      simp only [pS, pN, pA, pC, pZ]
      refine gw_pure rfl rfl (.int .i64 ((((k5 + 2) % 5) : Nat) : Int)) (fun w105 hCw105 => pureAt_of (ex_remA (m := (k5 + 2)) (n := 5) rfl rfl (by decide) (by omega))) ?_
      simp only [pS, pN, pA, pC, pZ]
      refine gw_pure rfl rfl (.pointer (some ⟨n87, ((k5 + 2) % 5), none⟩)) (fun w105 hCw105 => pureAt_of (ex_atA (i := ((k5 + 2) % 5)) Tryd.underlying107 (sizeof_88 _) rfl rfl (by omega))) ?_
      simp only [pS, pN, pA, pC, pZ]
      refine gw_pure rfl rfl (laneV (at0 (rowL Q y) ((k5 + 2) % 5))) (fun w105 hCw105 => pureAt_of (ex_load rfl (load1 (nagg_88 _) (St.cell (St.tells S98 hCw105) (i := 0) rfl (lanes_at (Nat.lt_of_lt_of_eq (show ((k5 + 2) % 5) < 5 by omega) (rowL_len _ _).symm)))))) ?_
      simp only [pS, pN, pA, pC, pZ]
      refine gw_pure rfl rfl (laneV ((~~~ (at0 (rowL Q y) ((k5 + 1) % 5))) &&& (at0 (rowL Q y) ((k5 + 2) % 5)))) (fun w105 hCw105 => pureAt_of (ex_andL rfl rfl)) ?_
      simp only [pS, pN, pA, pC, pZ]
      refine gw_pure rfl rfl (laneV ((at0 (rowL Q y) k5) ^^^ ((~~~ (at0 (rowL Q y) ((k5 + 1) % 5))) &&& (at0 (rowL Q y) ((k5 + 2) % 5))))) (fun w105 hCw105 => pureAt_of (ex_xorL rfl rfl)) ?_
      simp only [pS, pN, pA, pC, pZ]
      refine gw_pure rfl rfl (.pointer (some ⟨rb, 0, none⟩)) (fun w105 hCw105 => pureAt_of (ex_nil rfl)) ?_
      simp only [pS, pN, pA, pC, pZ]
      refine gw_nil ?_
      intro w106 hC108 hF109
      clear hF109
      have S107 := St.tells S98 hC108
      simp only [List.drop_succ_cons, List.drop_zero]
      refine do_ rfl (.pointer (some ⟨rb, (y + k5), none⟩)) (ex_atA (i := (y + k5)) Tryd.underlying90 (sizeof_88 _) rfl rfl (by omega)) ?_
      simp only [pS, pN, pA, pC, pZ]
      refine stStore (i := 2) (v := laneV ((at0 (rowL Q y) k5) ^^^ ((~~~ (at0 (rowL Q y) ((k5 + 1) % 5))) &&& (at0 (rowL Q y) ((k5 + 2) % 5))))) S107 rfl rfl rfl rfl (size_88) (allc1 rfl) (by rw [List.length_map, (chiK_len _ _)]; show (y + k5) + 1 ≤ 25; omega) (fun w110 S111 => ?_)
      simp only [pS, pN, pA, pC, pZ]
      have S111 : St w0 F0 w110 F (⟨n87, ((rowL Q y).map laneV), 107⟩ :: ⟨n2, ((cL Z 5).map laneV), 107⟩ :: ⟨rb, (splice ((chiK Q (y + k5)).map laneV) (y + k5) [laneV ((at0 (rowL Q y) k5) ^^^ ((~~~ (at0 (rowL Q y) ((k5 + 1) % 5))) &&& (at0 (rowL Q y) ((k5 + 2) % 5))))]), 90⟩ :: L0) (M0) := S111
      rw [lanes_set (Nat.lt_of_lt_of_eq (show (y + k5) < 25 by omega) (chiK_len _ _).symm)] at S111
      rw [chi_row hy5 (by omega), chiK_step Q (by omega)] at S111
      have S111 : St w0 F0 w110 F (⟨n87, ((rowL Q y).map laneV), 107⟩ :: ⟨n2, ((cL Z 5).map laneV), 107⟩ :: ⟨rb, ((chiK Q (y + (k5 + 1))).map laneV), 90⟩ :: L0) (M0) := S111
      refine wl_nil (hK103 _ _ ?_)
      refine region_wl ?_
      refine do_ rfl (.int .i64 (((k5 + 1) : Nat) : Int)) (ex_add (m := ((k5 : Nat) : Int)) (n := (1 : Int)) (r := (((k5 + 1) : Nat) : Int)) rfl rfl (by omega) (by omega) (by omega)) ?_
      simp only [pS, pN, pA, pC, pZ]
      refine do_ rfl (.int .i64 (((k5 + 1) : Nat) : Int)) (ex_move _) ?_
      simp only [pS, pN, pA, pC, pZ]
      refine wl_nil ?_
      exact hK100 _ _ _ (by omega) ⟨(k5 + 1), _, rfl, rfl, rfl, S111, (by omega)⟩
     ·refine do_ rfl (.bool false) (ex_lss (m := ((k5 : Nat) : Int)) (n := (5 : Int)) (b := false) rfl rfl (decide_eq_false (by omega))) ?_
      simp only [pS, pN, pA, pC, pZ]
      refine wl_nil (hK101 _ _ ?_)
      refine wp_seq_k (fun K112 hK112 => ?_)
      refine wp_cond_false rfl ?_
      refine wp_exit ?_
      refine hK85 _ _ ?_
      obtain rfl : k5 = 5 := by omega
      refine region_wl ?_
      refine do_ rfl (.int .i64 ((y : Nat) : Int)) (ex_move _) ?_
      simp only [pS, pN, pA, pC, pZ]
      refine do_ rfl (.int .i64 (((y + 5) : Nat) : Int)) (ex_add (m := ((y : Nat) : Int)) (n := (5 : Int)) (r := (((y + 5) : Nat) : Int)) rfl rfl (by omega) (by omega) (by omega)) ?_
      simp only [pS, pN, pA, pC, pZ]
      refine do_ rfl (.int .i64 (((y + 5) : Nat) : Int)) (ex_assign _) ?_
      simp only [pS, pN, pA, pC, pZ]
      refine wl_nil ?_
      have S98 := St.drop S98 (L' := (⟨n2, ((cL Z 5).map laneV), 107⟩ :: ⟨rb, ((chiK Q (y + 5)).map laneV), 90⟩ :: L0)) (.cons _ (List.Sublist.refl _))
      exact hK82 _ _ _ (by omega) ⟨(y + 5), _, rfl, rfl, rfl, S98, (by omega), (by omega)⟩
    ·refine do_ rfl (.bool false) (ex_lss (m := ((y : Nat) : Int)) (n := (25 : Int)) (b := false) rfl rfl (decide_eq_false (by omega))) ?_
     simp only [pS, pN, pA, pC, pZ]
     refine wl_nil (hK84 _ _ ?_)
     refine wp_cond_false rfl ?_
     refine wp_exit ?_
     refine hK73 _ _ ?_
     obtain rfl : y = 25 := by omega
     refine region_gw F 9 [] (by kernel_rfl) (by kernel_rfl) ?_
     simp only [List.take_succ_cons, List.take_zero]
     refine gw_pure rfl rfl (.pointer (some ⟨rb, 0, none⟩)) (fun w113 hCw113 => pureAt_of (ex_move _)) ?_
     simp only [pS, pN, pA, pC, pZ]
     refine gw_pure rfl rfl (.pointer (some ⟨rb, 0, none⟩)) (fun w113 hCw113 => pureAt_of (ex_nil rfl)) ?_
     simp only [pS, pN, pA, pC, pZ]
     refine gw_pure rfl rfl (.pointer (some ⟨rb, 0, none⟩)) (fun w113 hCw113 => pureAt_of (ex_atA (i := 0) Tryd.underlying90 (sizeof_88 _) rfl rfl (by omega))) ?_
     simp only [pS, pN, pA, pC, pZ]
     refine gw_pure rfl rfl (laneV (at0 (chiK Q 25) 0)) (fun w113 hCw113 => pureAt_of (ex_load rfl (load1 (nagg_88 _) (St.cell (St.tells S80 hCw113) (i := 1) rfl (lanes_at (Nat.lt_of_lt_of_eq (show 0 < 25 by omega) (chiK_len _ _).symm)))))) ?_
     simp only [pS, pN, pA, pC, pZ]
     refine gw_pure rfl rfl (.int .i64 ((r : Nat) : Int)) (fun w113 hCw113 => pureAt_of (ex_move _)) ?_
     simp only [pS, pN, pA, pC, pZ]
     refine gw_pure rfl rfl (.pointer (some ⟨2, r, none⟩)) (fun w113 hCw113 => pureAt_of (ex_atA (i := r) Tryd.underlying91 (sizeof_88 _) rfl rfl (by omega))) ?_
     simp only [pS, pN, pA, pC, pZ]
     refine gw_pure rfl rfl (laneV (roundB r)) (fun w113 hCw113 => pureAt_of (ex_load rfl (load1 (nagg_88 _) (((hT.at (St.tells S80 hCw113).gr.below).2.2 r hr))))) ?_
     simp only [pS, pN, pA, pC, pZ]
     refine gw_pure rfl rfl (laneV ((at0 (chiK Q 25) 0) ^^^ (roundB r))) (fun w113 hCw113 => pureAt_of (ex_xorL rfl rfl)) ?_
     simp only [pS, pN, pA, pC, pZ]
     refine gw_pure rfl rfl (.pointer (some ⟨rb, 0, none⟩)) (fun w113 hCw113 => pureAt_of (ex_nil rfl)) ?_
     simp only [pS, pN, pA, pC, pZ]
     refine gw_nil ?_
     intro w114 hC116 hF117
     clear hF117
     have S115 := St.tells S80 hC116
     simp only [List.drop_succ_cons, List.drop_zero]
     refine do_ rfl (.pointer (some ⟨rb, 0, none⟩)) (ex_atA (i := 0) Tryd.underlying90 (sizeof_88 _) rfl rfl (by omega)) ?_
     simp only [pS, pN, pA, pC, pZ]
     refine stStore (i := 1) (v := laneV ((at0 (chiK Q 25) 0) ^^^ (roundB r))) S115 rfl rfl rfl rfl (size_88) (allc1 rfl) (by rw [List.length_map, (chiK_len _ _)]; show 0 + 1 ≤ 25; omega) (fun w118 S119 => ?_)
     simp only [pS, pN, pA, pC, pZ]
     have S119 : St w0 F0 w118 F (⟨n2, ((cL Z 5).map laneV), 107⟩ :: ⟨rb, (splice ((chiK Q 25).map laneV) 0 [laneV ((at0 (chiK Q 25) 0) ^^^ (roundB r))]), 90⟩ :: L0) (M0) := S119
     rw [lanes_set (Nat.lt_of_lt_of_eq (show 0 < 25 by omega) (chiK_len _ _).symm)] at S119
     refine wl_nil ?_
     (try simp only [Exit.then, Exit.inBlock, ↓reduceIte, Nat.reduceEqDiff])
     refine bodyPost_end (v := .tuple #[]) ?_ rfl ?_
     ·exact res_0 rfl
     ·rw [chiK_all] at S119
      have S119 := St.drop S119 (L' := ⟨rb, ((chiL Q).set 0 (at0 (chiL Q) 0 ^^^ roundB r)).map laneV, 90⟩ :: L0) (.cons _ (List.Sublist.refl _))
      rw [hQ, hA, cL_all] at S119
      exact ⟨rfl, S119⟩
end Go.Proofs.YtcanckliggcllaaDoor
