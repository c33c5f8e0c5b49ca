/- Foundations: a part of the heap that no more changes, and what is read off it. No program in sight. -/
import Derived.Test.YteefnnnbbmbmcaaRows
import Derived.WalkKit
import Derived.WalkSpells
import Derived.WalkLawsBesides
namespace Go.Proofs.Yteefnnnbbmbmcaa
open Go.RowKit

theorem hid {p : Prop} (h : p) : Hid p := h

/-- A part of the heap that no more changes. -/
abbrev Fz := Nat → Option Obj
def Sat (w : World) (F : Fz) : Prop := ∀ b o, F b = some o → w.heap[b]? = some o
def cellF (F : Fz) (b off : Nat) : Option Value :=
  match F b with
  | some (.cells c _ _) => c[off]?
  | _ => none
theorem Sat.lt {w : World} {F : Fz} (h : Sat w F) {b : Nat} {o : Obj} (hb : F b = some o) : b < w.heap.size :=
  (Array.getElem?_eq_some_iff.1 (h b o hb)).1
theorem Sat.out {w : World} {F : Fz} (h : Sat w F) {b : Nat} (hb : w.heap.size ≤ b) : F b = none := by
  cases hc : F b with
  | none => rfl
  | some o => have := h.lt hc; omega
theorem Sat.cell {w : World} {F : Fz} (h : Sat w F) {b o : Nat} {v : Value} (hc : cellF F b o = some v) : w.cell? ⟨b, o, none⟩ = some v := by
  unfold cellF at hc
  split at hc
  · rename_i c t fr hb
    simp [World.cell?, h b _ hb, hc]
  · cases hc
theorem Sat.below {w w' : World} {F : Fz} (h : Sat w F) (hb : Below w.heap.size w w') : Sat w' F := fun b o hf => by
  rw [hb.block b (h.lt hf)]; exact h b o hf
theorem Sat.alloc {w : World} {F : Fz} (h : Sat w F) (o : Obj) : Sat (w.alloc o) F := fun b x hf => by
  rw [Below.heap_alloc w o b (h.lt hf)]; exact h b x hf
theorem Sat.drew {w : World} {F : Fz} (h : Sat w F) : Sat w.drew F := h
theorem Sat.setCell {w : World} {F : Fz} (h : Sat w F) {a : Addr} (ha : F a.block = none) (u : Value) : Sat (w.setCell a u) F := fun b x hf => by
  rw [Below.heap_setCell w a u b (fun e => by rw [e, ha] at hf; cases hf)]; exact h b x hf
theorem Sat.grown {w w' : World} {F : Fz} (h : Sat w F) {row : Option Nat} (hg : w.grownBy w' row) (hr : ∀ k, row = some k → F k = none) : Sat w' F := fun b x hf => by
  rw [hg.block b (h.lt hf) (fun e => by rw [hr b e.symm] at hf; cases hf)]; exact h b x hf
/-- All of the heap as it stands. -/
def whole (w : World) : Fz := fun b => w.heap[b]?
theorem Sat.whole (w : World) : Sat w (whole w) := fun _ _ h => h
/-- One more block that no more changes. -/
def addF (F : Fz) (w : World) (g : Nat) : Fz := fun b => match F b with | some o => some o | none => if b = g then w.heap[b]? else none
theorem Sat.addF {w : World} {F : Fz} (h : Sat w F) (g : Nat) : Sat w (addF F w g) := fun b o hb => by
  unfold Proofs.Yteefnnnbbmbmcaa.addF at hb
  split at hb
  · rename_i x hx; cases hb; exact h b _ hx
  · split at hb
    · exact hb
    · cases hb
theorem addF_le (F : Fz) (w : World) (g b : Nat) (o : Obj) (h : F b = some o) : addF F w g b = some o := by simp [addF, h]
theorem addF_old {F : Fz} {w : World} {g b : Nat} (h : b ≠ g) : addF F w g b = F b := by
  unfold addF
  cases F b <;> simp [h]

/-- What a call leaves: what lay below is as it was, and so is what no more changes; there may be more of it. -/
structure Gr (w : World) (F : Fz) (w' : World) (F' : Fz) : Prop where
  below : Below w.heap.size w w'
  old : ∀ b, b < w.heap.size → F' b = F b
  sat : Sat w' F'
theorem Gr.le {w w' : World} {F F' : Fz} (h : Gr w F w' F') (hs : Sat w F) : ∀ b o, F b = some o → F' b = some o := fun b o hb => by
  rw [h.old b (hs.lt hb)]; exact hb
theorem Gr.refl {w : World} {F : Fz} (hs : Sat w F) : Gr w F w F := ⟨Below.refl _ _, fun _ _ => rfl, hs⟩
theorem Gr.trans {w w1 w2 : World} {F F1 F2 : Fz} (h : Gr w F w1 F1) (k : Gr w1 F1 w2 F2) : Gr w F w2 F2 :=
  ⟨h.below.trans (k.below.mono h.below.size), fun b hb => (k.old b (Nat.lt_of_lt_of_le hb h.below.size)).trans (h.old b hb), k.sat⟩
theorem Gr.out {w w' : World} {F F' : Fz} (h : Gr w F w' F') {g : Nat} (hg : g < w.heap.size) (hn : F g = none) : F' g = none := by rw [h.old g hg]; exact hn
theorem Gr.of_below {w w' : World} {F : Fz} (hs : Sat w F) (h : Below w.heap.size w w') : Gr w F w' F := ⟨h, fun _ _ => rfl, hs.below h⟩
/-- A new block that the call made is done with. -/
theorem Gr.add {w w' : World} {F F' : Fz} (h : Gr w F w' F') {g : Nat} (hg : w.heap.size ≤ g) : Gr w F w' (addF F' w' g) :=
  ⟨h.below, fun b hb => (addF_old (by omega)).trans (h.old b hb), h.sat.addF g⟩
theorem Gr.set {w w1 : World} {F F1 : Fz} (h : Gr w F w1 F1) {a : Addr} (ha : w.heap.size ≤ a.block) (hn : F1 a.block = none) (u : Value) : Gr w F (w1.setCell a u) F1 :=
  ⟨h.below.setCell ha u, h.old, h.sat.setCell hn u⟩
theorem Gr.new {w w1 : World} {F F1 : Fz} (h : Gr w F w1 F1) (o : Obj) : Gr w F (w1.alloc o) F1 :=
  ⟨h.below.alloc h.below.size o, h.old, h.sat.alloc o⟩
theorem Gr.drew {w w1 : World} {F F1 : Fz} (h : Gr w F w1 F1) : Gr w F w1.drew F1 := ⟨h.below.drew, h.old, h.sat⟩
/-- A block known whole, cell by cell. -/
theorem box1 {w : World} {n T : Nat} {a0 : Value} (h : w.heap[n]? = some (.cells #[a0] T (0, 0))) :
    w.cell? ⟨n, 0, none⟩ = some a0 ∧ ∀ j, w.frozen? ⟨n, j, none⟩ = false := by
  refine ⟨by simp [World.cell?, h], fun j => by simp [World.frozen?, h]⟩
theorem box2 {w : World} {n T : Nat} {a0 a1 : Value} (h : w.heap[n]? = some (.cells #[a0, a1] T (0, 0))) :
    w.cell? ⟨n, 0, none⟩ = some a0 ∧ w.cell? ⟨n, 1, none⟩ = some a1 ∧ ∀ j, w.frozen? ⟨n, j, none⟩ = false := by
  refine ⟨by simp [World.cell?, h], by simp [World.cell?, h], fun j => by simp [World.frozen?, h]⟩
theorem box3 {w : World} {n T : Nat} {a0 a1 a2 : Value} (h : w.heap[n]? = some (.cells #[a0, a1, a2] T (0, 0))) :
    w.cell? ⟨n, 0, none⟩ = some a0 ∧ w.cell? ⟨n, 1, none⟩ = some a1 ∧ w.cell? ⟨n, 2, none⟩ = some a2 ∧ ∀ j, w.frozen? ⟨n, j, none⟩ = false := by
  refine ⟨by simp [World.cell?, h], by simp [World.cell?, h], by simp [World.cell?, h], fun j => by simp [World.frozen?, h]⟩
theorem box4 {w : World} {n T : Nat} {a0 a1 a2 a3 : Value} (h : w.heap[n]? = some (.cells #[a0, a1, a2, a3] T (0, 0))) :
    w.cell? ⟨n, 0, none⟩ = some a0 ∧ w.cell? ⟨n, 1, none⟩ = some a1 ∧ w.cell? ⟨n, 2, none⟩ = some a2 ∧ w.cell? ⟨n, 3, none⟩ = some a3 ∧ ∀ j, w.frozen? ⟨n, j, none⟩ = false := by
  refine ⟨by simp [World.cell?, h], by simp [World.cell?, h], by simp [World.cell?, h], by simp [World.cell?, h], fun j => by simp [World.frozen?, h]⟩
theorem box5 {w : World} {n T : Nat} {a0 a1 a2 a3 a4 : Value} (h : w.heap[n]? = some (.cells #[a0, a1, a2, a3, a4] T (0, 0))) :
    w.cell? ⟨n, 0, none⟩ = some a0 ∧ w.cell? ⟨n, 1, none⟩ = some a1 ∧ w.cell? ⟨n, 2, none⟩ = some a2 ∧ w.cell? ⟨n, 3, none⟩ = some a3 ∧ w.cell? ⟨n, 4, none⟩ = some a4 ∧ ∀ j, w.frozen? ⟨n, j, none⟩ = false := by
  refine ⟨by simp [World.cell?, h], by simp [World.cell?, h], by simp [World.cell?, h], by simp [World.cell?, h], by simp [World.cell?, h], fun j => by simp [World.frozen?, h]⟩
theorem box9 {w : World} {n T : Nat} {a0 a1 a2 a3 a4 a5 a6 a7 a8 : Value} (h : w.heap[n]? = some (.cells #[a0, a1, a2, a3, a4, a5, a6, a7, a8] T (0, 0))) :
    w.cell? ⟨n, 0, none⟩ = some a0 ∧ w.cell? ⟨n, 1, none⟩ = some a1 ∧ w.cell? ⟨n, 2, none⟩ = some a2 ∧ w.cell? ⟨n, 3, none⟩ = some a3 ∧ w.cell? ⟨n, 4, none⟩ = some a4 ∧ w.cell? ⟨n, 5, none⟩ = some a5 ∧ w.cell? ⟨n, 6, none⟩ = some a6 ∧ w.cell? ⟨n, 7, none⟩ = some a7 ∧ w.cell? ⟨n, 8, none⟩ = some a8 ∧ ∀ j, w.frozen? ⟨n, j, none⟩ = false := by
  refine ⟨by simp [World.cell?, h], by simp [World.cell?, h], by simp [World.cell?, h], by simp [World.cell?, h], by simp [World.cell?, h], by simp [World.cell?, h], by simp [World.cell?, h], by simp [World.cell?, h], by simp [World.cell?, h], fun j => by simp [World.frozen?, h]⟩
theorem heap_new_at (X : World) (o : Obj) {n : Nat} (h : n = X.heap.size) : (X.alloc o).heap[n]? = some o := by subst h; exact heap_alloc_new X o
theorem heap_new_past (X : World) (o : Obj) {n : Nat} {p : Obj} (h : X.heap[n]? = some p) : (X.alloc o).heap[n]? = some p := by
  rw [Below.heap_alloc X o n (Array.getElem?_eq_some_iff.1 h).1]; exact h
theorem heap_set_at {w : World} {n : Nat} {c : Array Value} {T : TypeId} {fr : Nat × Nat} (h : w.heap[n]? = some (.cells c T fr)) (j : Nat) (u : Value) : (w.setCell ⟨n, j, none⟩ u).heap[n]? = some (.cells (c.setIfInBounds j u) T fr) := by
  simp [World.setCell, Array.getElem?_modify, h]
theorem heap_set_past {w : World} {n : Nat} {p : Obj} (h : w.heap[n]? = some p) {a : Addr} (ha : a.block ≠ n) (u : Value) : (w.setCell a u).heap[n]? = some p := by
  rw [Below.heap_setCell w a u n (fun e => ha e.symm)]; exact h
theorem heap_kept {w w' : World} (hb : Below w.heap.size w w') {n : Nat} {p : Obj} (h : w.heap[n]? = some p) : w'.heap[n]? = some p := by
  rw [hb.block n (Array.getElem?_eq_some_iff.1 h).1]; exact h
/-- Le: more and more no more changes. -/
def Le (F F' : Fz) : Prop := ∀ b o, F b = some o → F' b = some o
theorem Le.refl (F : Fz) : Le F F := fun _ _ h => h
theorem Le.trans {F G H : Fz} (h : Le F G) (k : Le G H) : Le F H := fun b o hb => k b o (h b o hb)
theorem Le.cell {F F' : Fz} (h : Le F F') {b o : Nat} {v : Value} (hc : cellF F b o = some v) : cellF F' b o = some v := by
  unfold cellF at *
  cases hb : F b with
  | none => simp [hb] at hc
  | some x => rw [h b x hb]; rw [hb] at hc; exact hc
theorem Gr.le' {w w' : World} {F F' : Fz} (h : Gr w F w' F') (hs : Sat w F) : Le F F' := h.le hs
theorem Sat.le {w : World} {F F' : Fz} (h : Sat w F') (hl : Le F F') : Sat w F := fun b o hb => h b o (hl b o hb)

/-- A slice's value: n elements, whose cells are cs. -/
def Rw (F : Fz) (v : Value) (n : Nat) (cs : List Value) : Prop :=
  ∃ a c, v = .slice a n c ∧ n ≤ c ∧ c ≤ maxLen ∧ (a = none → n = 0 ∧ c = 0) ∧
    (cs = [] ∨ ∃ b o, a = some ⟨b, o, none⟩ ∧ ∀ j u, cs[j]? = some u → cellF F b (o + j) = some u)
theorem Rw.mono {F F' : Fz} {v : Value} {n : Nat} {cs : List Value} (h : Rw F v n cs) (hl : Le F F') : Rw F' v n cs := by
  obtain ⟨a, c, h1, h2, h3, h4, h5⟩ := h
  refine ⟨a, c, h1, h2, h3, h4, h5.imp id fun ⟨b, o, h6, h7⟩ => ⟨b, o, h6, fun j u hu => hl.cell (h7 j u hu)⟩⟩
theorem Rw.nil (F : Fz) : Rw F (.slice none 0 0) 0 [] := ⟨none, 0, rfl, Nat.le_refl _, Nat.zero_le _, fun _ => ⟨rfl, rfl⟩, .inl rfl⟩
theorem Rw.empty (F : Fz) (a : Addr) (c : Nat) (hc : c ≤ maxLen) : Rw F (.slice (some a) 0 c) 0 [] := ⟨some a, c, rfl, Nat.zero_le _, hc, (fun h => nomatch h), .inl rfl⟩
theorem Rw.shape {F : Fz} {v : Value} {n : Nat} {cs : List Value} (h : Rw F v n cs) : ∃ a c, v = .slice a n c ∧ n ≤ c ∧ c ≤ maxLen := by
  obtain ⟨a, c, h1, h2, h3, _⟩ := h
  exact ⟨a, c, h1, h2, h3⟩
theorem Rw.addr {F : Fz} {a : Option Addr} {m n c : Nat} {cs : List Value} (h : Rw F (.slice a m c) n cs) (hn : cs ≠ []) :
    ∃ b o, a = some ⟨b, o, none⟩ ∧ ∀ j u, cs[j]? = some u → cellF F b (o + j) = some u := by
  obtain ⟨a', c', h1, _, _, _, h5⟩ := h
  cases h1
  exact h5.resolve_left hn
theorem Rw.of_cells {F : Fz} {b o n c : Nat} {cs : List Value} (h1 : n ≤ c) (h2 : c ≤ maxLen) (h : ∀ j u, cs[j]? = some u → cellF F b (o + j) = some u) : Rw F (.slice (some ⟨b, o, none⟩) n c) n cs :=
  ⟨_, c, rfl, h1, h2, (fun h => nomatch h), .inr ⟨b, o, rfl, h⟩⟩
/-- A row that the call owns is done with. -/
theorem Rw.of_owns {w : World} {F : Fz} {base e size : Nat} {v : Value} {n : Nat} {xs : List Value} (h : w.ownsRow base e size v n xs) (hs : Sat w F) :
    ∃ g, Rw (addF F w g) v n xs ∧ (v = .slice none 0 0 ∨ base ≤ g) := by
  rcases h with ⟨hl, ⟨rfl, rfl⟩ | ⟨g, cap, cur, rfl, hb, hg, h1, h2, h3, h4⟩⟩
  · have : xs = [] := List.eq_nil_of_length_eq_zero (by simpa using hl)
    subst this
    exact ⟨w.heap.size, Rw.nil _, .inl rfl⟩
  · refine ⟨g, Rw.of_cells h1 h2 fun j u hu => ?_, .inr hb⟩
    have hb' : addF F w g g = some (.cells cur e (0, 0)) := by
      unfold addF
      cases hf : F g with
      | none => simp [hg]
      | some o => have := hs g o hf; rw [hg] at this; simp at this; simp [← this]
    rw [← h4, List.getElem?_take] at hu
    split at hu
    · unfold cellF; rw [hb', Nat.zero_add]; simpa using hu
    · cases hu
theorem Rw.takeN {F : Fz} {a : Option Addr} {n c k : Nat} {cs : List Value} (h : Rw F (.slice a n c) n cs) (hk : k ≤ n) (size : Nat) : Rw F (.slice a k c) k (cs.take (k * size)) := by
  obtain ⟨a', c', h1, h2, h3, h4, h5⟩ := h
  cases h1
  refine ⟨a, c, rfl, by omega, h3, fun h => ⟨by have := h4 h; omega, (h4 h).2⟩, ?_⟩
  rcases h5 with rfl | ⟨b, o, h6, h7⟩
  · exact .inl (by simp)
  · refine .inr ⟨b, o, h6, fun j u hu => h7 j u ?_⟩
    rw [List.getElem?_take] at hu
    split at hu
    · exact hu
    · cases hu
/-- Bytes. -/
def bv (b : UInt8) : Value := .int .u8 (b.toNat : Int)
def Bs (F : Fz) (v : Value) (l : List UInt8) : Prop := Rw F v l.length (l.map bv)
theorem Bs.mono {F F' : Fz} {v : Value} {l : List UInt8} (h : Bs F v l) (hl : Le F F') : Bs F' v l := Rw.mono h hl
theorem Bs.nil (F : Fz) : Bs F (.slice none 0 0) [] := Rw.nil F
theorem Bs.shape {F : Fz} {v : Value} {l : List UInt8} (h : Bs F v l) : ∃ a c, v = .slice a l.length c ∧ l.length ≤ c ∧ c ≤ maxLen := Rw.shape h
theorem Bs.addr {F : Fz} {a : Option Addr} {m c : Nat} {l : List UInt8} (h : Bs F (.slice a m c) l) (hn : 0 < m) :
    ∃ b o, a = some ⟨b, o, none⟩ ∧ ∀ j (hj : j < l.length), cellF F b (o + j) = some (.int .u8 (l[j].toNat : Int)) := by
  have hm : m = l.length := by obtain ⟨a', c', h1, _⟩ := h; cases h1; rfl
  obtain ⟨b, o, h1, h2⟩ := Rw.addr h (by intro e; have := congrArg List.length e; simp at this; rw [hm, this] at hn; simp at hn)
  exact ⟨b, o, h1, fun j hj => h2 j _ (by simp [bv, hj])⟩
theorem Bs.len {F : Fz} {a : Option Addr} {m c : Nat} {l : List UInt8} (h : Bs F (.slice a m c) l) : m = l.length := by
  obtain ⟨a', c', h1, _⟩ := h.shape
  cases h1; rfl
theorem Bs.takeN {F : Fz} {a : Option Addr} {n c k : Nat} {l : List UInt8} (h : Bs F (.slice a n c) l) (hk : k ≤ l.length) : Rw F (.slice a k c) k ((l.take k).map bv) := by
  obtain rfl := h.len
  have := Rw.takeN h hk 1
  rw [Nat.mul_one, ← List.map_take] at this
  exact this
/-- What a call that makes something hands back. -/
def Gives (w : World) (F : Fz) (R : Fz → Value → Prop) (e : Ending) (w' : World) : Prop := ∃ v F', e = .returned v ∧ Gr w F w' F' ∧ R F' v
/-- .. of a call that makes nothing that is handed back. -/
def Tells (w : World) (v : Value) (e : Ending) (w' : World) : Prop := e = .returned v ∧ Below w.heap.size w w'

/-- A row of the call's own, handed back. -/
theorem Gr.row {w w' : World} {F : Fz} {e size : Nat} {v : Value} {n : Nat} {xs : List Value} (hs : Sat w F) (hb : Below w.heap.size w w') (h : w'.ownsRow w.heap.size e size v n xs) :
    ∃ F', Gr w F w' F' ∧ Rw F' v n xs := by
  obtain ⟨g, h1, h2⟩ := Rw.of_owns h (hs.below hb)
  rcases h2 with rfl | h2
  · obtain ⟨a', c', e1, e2, e3, e4, e5⟩ := h1
    cases e1
    rcases e5 with rfl | ⟨_, _, e6, _⟩
    · exact ⟨F, Gr.of_below hs hb, Rw.nil F⟩
    · cases e6
  · exact ⟨_, (Gr.of_below hs hb).add h2, h1⟩
theorem below_nil {w w' : World} {v : Value} (h : w.grownBy w' v.ownBlock) (hv : v = .slice none 0 0) : Below w.heap.size w w' := by
  subst hv
  exact (Below.refl _ _).grown h (Nat.le_refl _) (fun k hk => by cases hk)
section
variable {P : Program} {w : World} {F : Fz}
theorem run_append_any (base : Nat) (t ty e : TypeId) (i : TypeInfo) (z : Value) (size bytes : Nat) (ht : P.underlying t = some (.slice e)) (hi : P.info? e = some i) (hz : i.zero = some z)
    (hsize : i.size = size) (hby : i.bytes = bytes) (hzs : z.cells.size = size) (hsz : 0 < size)
    {v : Value} {n : Nat} {xs : List Value} (hown : w.ownsRow base e size v n xs) {u : Value} {m : Nat} {news : List Value} (hs : Sat w F) (hr : Rw F u m news)
    (hl : news.length = m * size) (h1 : ∀ u ∈ news, u.oneCell' = true)
    (h63 : n + m ≤ maxLen) (hbytes : (n + m) * bytes ≤ 140737488355328) (hbase : base ≤ w.heap.size) :
    ∃ v' w', (Builtin.append_ #[t, t] ty #[v, u]).run P w = .ok v' w' ∧ w'.ownsRow base e size v' (n + m) (xs ++ news) ∧ w.grownBy w' v.ownBlock ∧
      (v' = .slice none 0 0 ↔ v = .slice none 0 0 ∧ m = 0) := by
  obtain ⟨a, c, rfl, h2, h3, h4, h5⟩ := hr
  cases a with
  | none =>
    obtain ⟨rfl, rfl⟩ := h4 rfl
    obtain rfl : news = [] := h5.resolve_right (by rintro ⟨_, _, e, _⟩; cases e)
    have hrun := run_append_owned_none (P := P) w base t ty e i size ht hi v n xs hown
    exact ⟨v, w, by simpa using hrun, by simpa using hown, World.grownBy.refl _ _, by simp⟩
  | some a =>
    refine run_append_own (P := P) w base t ty e i z size bytes ht hi hz hsize hby hzs hsz v n xs hown a m c news hl (fun j u hu => ?_) h1 h63 hbytes hbase
    rcases h5 with rfl | ⟨b, o, h6, h7⟩
    · simp at hu
    · cases h6
      have : (⟨b, o, none⟩ : Addr).add j = ⟨b, o + j, none⟩ := by unfold Addr.add; split <;> simp_all
      rw [this]; exact hs.cell (h7 j u hu)
theorem wpList_append_any {ops : Array Oper} {rest : List Oper} {o : Oper} {a : Act} {Q : Exit → Act → World → Prop} (hgd : o.guard = none) (s x : Operand) (t : TypeId)
    (ho : o.op = .call { callee := .builtin .append, args := #[s, x], argTypes := #[t, t] })
    (base : Nat) (e : TypeId) (i : TypeInfo) (z : Value) (size bytes : Nat) (ht : P.underlying t = some (.slice e)) (hi : P.info? e = some i) (hz : i.zero = some z)
    (hsize : i.size = size) (hby : i.bytes = bytes) (hzs : z.cells.size = size) (hsz : 0 < size)
    {v : Value} {n : Nat} {xs : List Value} (hv : a.eval s = v) (hown : w.ownsRow base e size v n xs) {u : Value} {m : Nat} {news : List Value} (hu : a.eval x = u) (hs : Sat w F) (hr : Rw F u m news)
    (hl : news.length = m * size) (h1 : ∀ u ∈ news, u.oneCell' = true)
    (h63 : n + m ≤ maxLen) (hbytes : (n + m) * bytes ≤ 140737488355328) (hbase : base ≤ w.heap.size)
    (h : ∀ v' w', w'.ownsRow base e size v' (n + m) (xs ++ news) → w.grownBy w' v.ownBlock → (v' = .slice none 0 0 ↔ v = .slice none 0 0 ∧ m = 0) → wpList P ops Q rest (a.put o.dst v') w') :
    wpList P ops Q (o :: rest) a w := by
  refine wpList_plain hgd fun K hK => ?_
  obtain ⟨v', w', hrun, h2, h3, h4⟩ := run_append_any (P := P) base t o.type e i z size bytes ht hi hz hsize hby hzs hsz hown hs hr hl h1 h63 hbytes hbase
  unfold Oper.wp execOp
  simp only [ho, resolve, invoke, builtin, Sem.run_bind, Sem.run_pure, Result.andThen_ok, List.map_toArray, List.map_cons, List.map_nil, hv, hu, hrun]
  exact hK _ _ (h v' w' h2 h3 h4)
theorem bv_oneCell (l : List UInt8) : ∀ u ∈ l.map bv, u.oneCell' = true := by
  intro u hu
  obtain ⟨_, _, rfl⟩ := List.mem_map.1 hu
  rfl
/-- 'string(b)'. -/
theorem run_string {src e dst : TypeId} (hsrc : P.underlying src = some (.slice e)) (he : P.underlying e = some (.int .u8)) (hd : P.underlying dst = some .string)
    {v : Value} {l : List UInt8} (hs : Sat w F) (h : Bs F v l) : (convert src dst v).run P w = .ok (.string ⟨l.toArray⟩) w := by
  obtain ⟨a, c, rfl, h2, h3, h4', h5⟩ := h
  by_cases hl : l = []
  · subst hl
    cases a with
    | none => exact run_convert_bytes_nil w src e hsrc he _ _ dst hd
    | some a =>
      show (convert src dst (.slice (some a) 0 c)).run P w = _
      rw [run_convert_bytes_string w src dst e _ 0 c hsrc he hd, run_bytesToString w a 0 c [] (run_loadCells_list (P := P) w a [] (by simp))]
      rfl
  · obtain ⟨b, o, rfl, h4⟩ := h5.resolve_left (by simpa using hl)
    have hh := run_convert_bytes_arg (P := P) w src e hsrc he b o l.length c (l.map fun x => (x.toNat : Int)) (by simp) (fun i hi => by
      rw [hs.cell (h4 i (.int .u8 (l[i].toNat : Int)) (by simp [bv, hi]))]
      simp [List.getD, hi]) dst hd
    rw [hh]
    congr 2
    unfold strOfNums
    simp only [List.map_map]
    have e : ((fun n : Int => UInt8.ofNat n.toNat) ∘ fun x : UInt8 => (x.toNat : Int)) = id := by funext x; simp
    rw [e, List.map_id]
end
end Go.Proofs.Yteefnnnbbmbmcaa
