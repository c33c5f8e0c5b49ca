/- Rules, plain laws and walks: A B M1 R G B2 J P1 D0 P2 P3 P4 P5 P6 -/
import Derived.Test.YtilgpdpooildcaaGreatDoorRows
import Derived.WalkKit
import Derived.WalkSpells
import Derived.WalkLawsBesides
import Derived.Deep.QuietTactic
import Derived.BigQuiet
import Derived.ProofKit
import Derived.OpenShut
import Derived.ShutString
import Derived.ChangeOld
import Derived.Deep.Slices
import Derived.StillTail
import Derived.JoinedOf
namespace Go.Proofs.YtilgpdpooildcaaGreatDoor
set_option maxHeartbeats 8000000
open Go.RowKit

abbrev zZa := @if_neg
abbrev zZb := @if_pos
abbrev zZc := @List.getElem?_eq_getElem
abbrev zZd := @List.Sublist.refl
abbrev zZe := @Nat.le_refl
abbrev zZf := @List.length_append
abbrev zZg := @List.length_cons
abbrev zZh := @List.length_take
abbrev zZi := @List.mem_of_getElem?
abbrev zZj := @List.length_nil
abbrev zZk := @List.mem_cons
abbrev zZl := @List.append_assoc
abbrev zZm := @List.length_map
abbrev zZn := @List.length_drop
abbrev zZo := @Nat.le_trans
abbrev zZp := @List.getElem?_cons_zero
abbrev zZq := @List.getElem?_cons_succ
theorem hid {p : Prop} (h : p) : Hid p := h

abbrev Fz := Nat → Option Obj
def Sat (w : World) (F : Fz) : Prop := ∀ b o, F b = some o → w.heap[b]? = some o
def cS (F : Fz) (b off : Nat) : Option Value :=
  match F b with
  | some (.cells c _ _) => c[off]?
  | _ => none
theorem Sat.lt {w : World} {F : Fz} (h : Sat w F) {b : Nat} {o : Obj} (hb : F b = some o) : b < w.heap.size :=
  (Array.getElem?_eq_some_iff.1 (h b o hb)).1
theorem Sat.out {w : World} {F : Fz} (h : Sat w F) {b : Nat} (hb : w.heap.size ≤ b) : F b = none := by
 cases hc : F b with
 | none => rfl
 | some o => have := h.lt hc; omega
theorem Sat.cell {w : World} {F : Fz} (h : Sat w F) {b o : Nat} {v : Value} (hc : cS F b o = some v) : w.cell? ⟨b, o, none⟩ = some v := by
 unfold cS at hc
 split at hc
 ·rename_i c t fr hb
  simp [World.cell?, h b _ hb, hc]
 ·cases hc
theorem Sat.below {w w' : World} {F : Fz} (h : Sat w F) (hb : Below w.heap.size w w') : Sat w' F := fun b o hf => by
  rw [hb.block b (h.lt hf)]; exact h b o hf
theorem Sat.alloc {w : World} {F : Fz} (h : Sat w F) (o : Obj) : Sat (w.alloc o) F := fun b x hf => by
  rw [Below.heap_alloc w o b (h.lt hf)]; exact h b x hf
theorem Sat.setCell {w : World} {F : Fz} (h : Sat w F) {a : Addr} (ha : F a.block = none) (u : Value) : Sat (w.setCell a u) F := fun b x hf => by
  rw [Below.heap_setCell w a u b (fun e => by rw [e, ha] at hf; cases hf)]; exact h b x hf
theorem Sat.grown {w w' : World} {F : Fz} (h : Sat w F) {row : Option Nat} (hg : w.grownBy w' row) (hr : ∀ k, row = some k → F k = none) : Sat w' F := fun b x hf => by
  rw [hg.block b (h.lt hf) (fun e => by rw [hr b e.symm] at hf; cases hf)]; exact h b x hf
def whole (w : World) : Fz := fun b => w.heap[b]?
theorem Sat.whole (w : World) : Sat w (whole w) := fun _ _ h => h
def addF (F : Fz) (w : World) (g : Nat) : Fz := fun b => match F b with | some o => some o | none => if b = g then w.heap[b]? else none
theorem Sat.addF {w : World} {F : Fz} (h : Sat w F) (g : Nat) : Sat w (addF F w g) := fun b o hb => by
  unfold Proofs.YtilgpdpooildcaaGreatDoor.addF at hb
  split at hb
  · rename_i x hx; cases hb; exact h b _ hx
  · split at hb
    · exact hb
    · cases hb
theorem uQ (F : Fz) (w : World) (g b : Nat) (o : Obj) (h : F b = some o) : addF F w g b = some o := by simp [addF, h]
theorem tB {F : Fz} {w : World} {g b : Nat} (h : b ≠ g) : addF F w g b = F b := by
 unfold addF
 cases F b <;> simp [h]

structure Gr (w : World) (F : Fz) (w' : World) (F' : Fz) : Prop where
  below : Below w.heap.size w w'
  old : ∀ b, b < w.heap.size → F' b = F b
  sat : Sat w' F'
theorem Gr.le {w w' : World} {F F' : Fz} (h : Gr w F w' F') (hs : Sat w F) : ∀ b o, F b = some o → F' b = some o := fun b o hb => by
  rw [h.old b (hs.lt hb)]; exact hb
theorem Gr.refl {w : World} {F : Fz} (hs : Sat w F) : Gr w F w F := ⟨Below.refl _ _, fun _ _ => rfl, hs⟩
theorem Gr.trans {w w1 w2 : World} {F F1 F2 : Fz} (h : Gr w F w1 F1) (k : Gr w1 F1 w2 F2) : Gr w F w2 F2 :=
  ⟨h.below.trans (k.below.mono h.below.size), fun b hb => (k.old b (Nat.lt_of_lt_of_le hb h.below.size)).trans (h.old b hb), k.sat⟩
theorem Gr.out {w w' : World} {F F' : Fz} (h : Gr w F w' F') {g : Nat} (hg : g < w.heap.size) (hn : F g = none) : F' g = none := by rw [h.old g hg]; exact hn
theorem Gr.of_below {w w' : World} {F : Fz} (hs : Sat w F) (h : Below w.heap.size w w') : Gr w F w' F := ⟨h, fun _ _ => rfl, hs.below h⟩
theorem Gr.add {w w' : World} {F F' : Fz} (h : Gr w F w' F') {g : Nat} (hg : w.heap.size ≤ g) : Gr w F w' (addF F' w' g) :=
  ⟨h.below, fun b hb => (tB (by omega)).trans (h.old b hb), h.sat.addF g⟩
theorem Gr.set {w w1 : World} {F F1 : Fz} (h : Gr w F w1 F1) {a : Addr} (ha : w.heap.size ≤ a.block) (hn : F1 a.block = none) (u : Value) : Gr w F (w1.setCell a u) F1 :=
  ⟨h.below.setCell ha u, h.old, h.sat.setCell hn u⟩
theorem Gr.new {w w1 : World} {F F1 : Fz} (h : Gr w F w1 F1) (o : Obj) : Gr w F (w1.alloc o) F1 :=
  ⟨h.below.alloc h.below.size o, h.old, h.sat.alloc o⟩
theorem LJ (X : World) (o : Obj) {n : Nat} (h : n = X.heap.size) : (X.alloc o).heap[n]? = some o := by subst h; exact heap_alloc_new X o
theorem LK {w : World} {n : Nat} {c : Array Value} {T : TypeId} {fr : Nat × Nat} (h : w.heap[n]? = some (.cells c T fr)) (j : Nat) (u : Value) : (w.setCell ⟨n, j, none⟩ u).heap[n]? = some (.cells (c.setIfInBounds j u) T fr) := by
 simp [World.setCell, Array.getElem?_modify, h]
theorem FL {w : World} {n : Nat} {p : Obj} (h : w.heap[n]? = some p) {a : Addr} (ha : a.block ≠ n) (u : Value) : (w.setCell a u).heap[n]? = some p := by
 rw [Below.heap_setCell w a u n (fun e => ha e.symm)]; exact h
theorem UO {w w' : World} (hb : Below w.heap.size w w') {n : Nat} {p : Obj} (h : w.heap[n]? = some p) : w'.heap[n]? = some p := by
 rw [hb.block n (Array.getElem?_eq_some_iff.1 h).1]; exact h
def Le (F F' : Fz) : Prop := ∀ b o, F b = some o → F' b = some o
theorem Le.refl (F : Fz) : Le F F := fun _ _ h => h
theorem Le.trans {F G H : Fz} (h : Le F G) (k : Le G H) : Le F H := fun b o hb => k b o (h b o hb)
theorem Le.cell {F F' : Fz} (h : Le F F') {b o : Nat} {v : Value} (hc : cS F b o = some v) : cS F' b o = some v := by
 unfold cS at *
 cases hb : F b with
 | none => simp [hb] at hc
 | some x => rw [h b x hb]; rw [hb] at hc; exact hc
theorem Sat.le {w : World} {F F' : Fz} (h : Sat w F') (hl : Le F F') : Sat w F := fun b o hb => h b o (hl b o hb)

def Rw (F : Fz) (v : Value) (n : Nat) (cs : List Value) : Prop :=
  ∃ a c, v = .slice a n c ∧ n ≤ c ∧ c ≤ maxLen ∧ (a = none → n = 0 ∧ c = 0) ∧
    (cs = [] ∨ ∃ b o, a = some ⟨b, o, none⟩ ∧ ∀ j u, cs[j]? = some u → cS F b (o + j) = some u)
theorem Rw.mono {F F' : Fz} {v : Value} {n : Nat} {cs : List Value} (h : Rw F v n cs) (hl : Le F F') : Rw F' v n cs := by
 obtain ⟨a, c, h1, h2, h3, h4, h5⟩ := h
 refine ⟨a, c, h1, h2, h3, h4, h5.imp id fun ⟨b, o, h6, h7⟩ => ⟨b, o, h6, fun j u hu => hl.cell (h7 j u hu)⟩⟩
theorem Rw.nil (F : Fz) : Rw F (.slice none 0 0) 0 [] := ⟨none, 0, rfl, zZe _, Nat.zero_le _, fun _ => ⟨rfl, rfl⟩, .inl rfl⟩
theorem Rw.shape {F : Fz} {v : Value} {n : Nat} {cs : List Value} (h : Rw F v n cs) : ∃ a c, v = .slice a n c ∧ n ≤ c ∧ c ≤ maxLen := by
 obtain ⟨a, c, h1, h2, h3, _⟩ := h
 exact ⟨a, c, h1, h2, h3⟩
theorem Rw.addr {F : Fz} {a : Option Addr} {m n c : Nat} {cs : List Value} (h : Rw F (.slice a m c) n cs) (hn : cs ≠ []) :
    ∃ b o, a = some ⟨b, o, none⟩ ∧ ∀ j u, cs[j]? = some u → cS F b (o + j) = some u := by
 obtain ⟨a', c', h1, _, _, _, h5⟩ := h
 cases h1
 exact h5.resolve_left hn
theorem Rw.of_cells {F : Fz} {b o n c : Nat} {cs : List Value} (h1 : n ≤ c) (h2 : c ≤ maxLen) (h : ∀ j u, cs[j]? = some u → cS F b (o + j) = some u) : Rw F (.slice (some ⟨b, o, none⟩) n c) n cs :=
  ⟨_, c, rfl, h1, h2, (fun h => nomatch h), .inr ⟨b, o, rfl, h⟩⟩
theorem Rw.of_owns {w : World} {F : Fz} {base e size : Nat} {v : Value} {n : Nat} {xs : List Value} (h : w.ownsRow base e size v n xs) (hs : Sat w F) :
    ∃ g, Rw (addF F w g) v n xs ∧ (v = .slice none 0 0 ∨ base ≤ g) := by
 rcases h with ⟨hl, ⟨rfl, rfl⟩ | ⟨g, cap, cur, rfl, hb, hg, h1, h2, h3, h4⟩⟩
 ·have : xs = [] := List.eq_nil_of_length_eq_zero (by simpa using hl)
  subst this
  exact ⟨w.heap.size, Rw.nil _, .inl rfl⟩
 ·refine ⟨g, Rw.of_cells h1 h2 fun j u hu => ?_, .inr hb⟩
  have hb' : addF F w g g = some (.cells cur e (0, 0)) := by
   unfold addF
   cases hf : F g with
   | none => simp [hg]
   | some o => have := hs g o hf; rw [hg] at this; simp at this; simp [← this]
  rw [← h4, List.getElem?_take] at hu
  split at hu
  ·unfold cS; rw [hb', Nat.zero_add]; simpa using hu
  ·cases hu
theorem Rw.takeN {F : Fz} {a : Option Addr} {n c k : Nat} {cs : List Value} (h : Rw F (.slice a n c) n cs) (hk : k ≤ n) (size : Nat) : Rw F (.slice a k c) k (cs.take (k * size)) := by
 obtain ⟨a', c', h1, h2, h3, h4, h5⟩ := h
 cases h1
 refine ⟨a, c, rfl, by omega, h3, fun h => ⟨by have := h4 h; omega, (h4 h).2⟩, ?_⟩
 rcases h5 with rfl | ⟨b, o, h6, h7⟩
 ·exact .inl (by simp)
 ·refine .inr ⟨b, o, h6, fun j u hu => h7 j u ?_⟩
  rw [List.getElem?_take] at hu
  split at hu
  ·exact hu
  ·cases hu
def bv (b : UInt8) : Value := .int .u8 (b.toNat : Int)
def Bs (F : Fz) (v : Value) (l : List UInt8) : Prop := Rw F v l.length (l.map bv)
theorem Bs.mono {F F' : Fz} {v : Value} {l : List UInt8} (h : Bs F v l) (hl : Le F F') : Bs F' v l := Rw.mono h hl
theorem Bs.nil (F : Fz) : Bs F (.slice none 0 0) [] := Rw.nil F
theorem Bs.shape {F : Fz} {v : Value} {l : List UInt8} (h : Bs F v l) : ∃ a c, v = .slice a l.length c ∧ l.length ≤ c ∧ c ≤ maxLen := Rw.shape h
theorem Bs.addr {F : Fz} {a : Option Addr} {m c : Nat} {l : List UInt8} (h : Bs F (.slice a m c) l) (hn : 0 < m) :
    ∃ b o, a = some ⟨b, o, none⟩ ∧ ∀ j (hj : j < l.length), cS F b (o + j) = some (.int .u8 (l[j].toNat : Int)) := by
 have hm : m = l.length := by obtain ⟨a', c', h1, _⟩ := h; cases h1; rfl
 obtain ⟨b, o, h1, h2⟩ := Rw.addr h (by intro e; have := congrArg List.length e; simp at this; rw [hm, this] at hn; simp at hn)
 exact ⟨b, o, h1, fun j hj => h2 j _ (by simp [bv, hj])⟩
theorem Bs.len {F : Fz} {a : Option Addr} {m c : Nat} {l : List UInt8} (h : Bs F (.slice a m c) l) : m = l.length := by
 obtain ⟨a', c', h1, _⟩ := h.shape
 cases h1; rfl
def dF (w : World) (F : Fz) (R : Fz → Value → Prop) (e : Ending) (w' : World) : Prop := ∃ v F', e = .returned v ∧ Gr w F w' F' ∧ R F' v
def cT (w : World) (v : Value) (e : Ending) (w' : World) : Prop := e = .returned v ∧ Below w.heap.size w w'

theorem Gr.row {w w' : World} {F : Fz} {e size : Nat} {v : Value} {n : Nat} {xs : List Value} (hs : Sat w F) (hb : Below w.heap.size w w') (h : w'.ownsRow w.heap.size e size v n xs) :
    ∃ F', Gr w F w' F' ∧ Rw F' v n xs := by
 obtain ⟨g, h1, h2⟩ := Rw.of_owns h (hs.below hb)
 rcases h2 with rfl | h2
 ·obtain ⟨a', c', e1, e2, e3, e4, e5⟩ := h1
  cases e1
  rcases e5 with rfl | ⟨_, _, e6, _⟩
  ·exact ⟨F, Gr.of_below hs hb, Rw.nil F⟩
  ·cases e6
 ·exact ⟨_, (Gr.of_below hs hb).add h2, h1⟩
section
variable {P : Program} {w : World} {F : Fz}
theorem CJ (base : Nat) (t ty e : TypeId) (i : TypeInfo) (z : Value) (size bytes : Nat) (ht : P.underlying t = some (.slice e)) (hi : P.info? e = some i) (hz : i.zero = some z)
    (hsize : i.size = size) (hby : i.bytes = bytes) (hzs : z.cells.size = size) (hsz : 0 < size)
    {v : Value} {n : Nat} {xs : List Value} (hown : w.ownsRow base e size v n xs) {u : Value} {m : Nat} {news : List Value} (hs : Sat w F) (hr : Rw F u m news)
    (hl : news.length = m * size) (h1 : ∀ u ∈ news, u.oneCell' = true)
    (a0 : n + m ≤ maxLen) (hbytes : (n + m) * bytes ≤ 140737488355328) (hbase : base ≤ w.heap.size) :
    ∃ v' w', (Builtin.append_ #[t, t] ty #[v, u]).run P w = .ok v' w' ∧ w'.ownsRow base e size v' (n + m) (xs ++ news) ∧ w.grownBy w' v.ownBlock ∧
      (v' = .slice none 0 0 ↔ v = .slice none 0 0 ∧ m = 0) := by
 obtain ⟨a, c, rfl, h2, h3, h4, h5⟩ := hr
 cases a with
 | none =>
  obtain ⟨rfl, rfl⟩ := h4 rfl
  obtain rfl : news = [] := h5.resolve_right (by rintro ⟨_, _, e, _⟩; cases e)
  have hrun := run_append_owned_none (P := P) w base t ty e i size ht hi v n xs hown
  exact ⟨v, w, by simpa using hrun, by simpa using hown, World.grownBy.refl _ _, by simp⟩
 | some a =>
  refine run_append_own (P := P) w base t ty e i z size bytes ht hi hz hsize hby hzs hsz v n xs hown a m c news hl (fun j u hu => ?_) h1 a0 hbytes hbase
  rcases h5 with rfl | ⟨b, o, h6, h7⟩
  ·simp at hu
  ·cases h6
   have : (⟨b, o, none⟩ : Addr).add j = ⟨b, o + j, none⟩ := by unfold Addr.add; split <;> simp_all
   rw [this]; exact hs.cell (h7 j u hu)
theorem pR {ops : Array Oper} {rest : List Oper} {o : Oper} {a : Act} {Q : Exit → Act → World → Prop} (hgd : o.guard = none) (s x : Operand) (t : TypeId)
    (ho : o.op = .call { callee := .builtin .append, args := #[s, x], argTypes := #[t, t] })
    (base : Nat) (e : TypeId) (i : TypeInfo) (z : Value) (size bytes : Nat) (ht : P.underlying t = some (.slice e)) (hi : P.info? e = some i) (hz : i.zero = some z)
    (hsize : i.size = size) (hby : i.bytes = bytes) (hzs : z.cells.size = size) (hsz : 0 < size)
    {v : Value} {n : Nat} {xs : List Value} (hv : a.eval s = v) (hown : w.ownsRow base e size v n xs) {u : Value} {m : Nat} {news : List Value} (hu : a.eval x = u) (hs : Sat w F) (hr : Rw F u m news)
    (hl : news.length = m * size) (h1 : ∀ u ∈ news, u.oneCell' = true)
    (a0 : n + m ≤ maxLen) (hbytes : (n + m) * bytes ≤ 140737488355328) (hbase : base ≤ w.heap.size)
    (h : ∀ v' w', w'.ownsRow base e size v' (n + m) (xs ++ news) → w.grownBy w' v.ownBlock → (v' = .slice none 0 0 ↔ v = .slice none 0 0 ∧ m = 0) → wpList P ops Q rest (a.put o.dst v') w') :
    wpList P ops Q (o :: rest) a w := by
 refine wpList_plain hgd fun K hK => ?_
 obtain ⟨v', w', hrun, h2, h3, h4⟩ := CJ (P := P) base t o.type e i z size bytes ht hi hz hsize hby hzs hsz hown hs hr hl h1 a0 hbytes hbase
 unfold Oper.wp execOp
 simp only [ho, resolve, invoke, builtin, Sem.run_bind, Sem.run_pure, Result.andThen_ok, List.map_toArray, List.map_cons, List.map_nil, hv, hu, hrun]
 exact hK _ _ (h v' w' h2 h3 h4)
theorem CK (l : List UInt8) : ∀ u ∈ l.map bv, u.oneCell' = true := by
 intro u hu
 obtain ⟨_, _, rfl⟩ := List.mem_map.1 hu
 rfl
theorem gE {src e dst : TypeId} (hsrc : P.underlying src = some (.slice e)) (he : P.underlying e = some (.int .u8)) (hd : P.underlying dst = some .string)
    {v : Value} {l : List UInt8} (hs : Sat w F) (h : Bs F v l) : (convert src dst v).run P w = .ok (.string ⟨l.toArray⟩) w := by
 obtain ⟨a, c, rfl, h2, h3, h4', h5⟩ := h
 by_cases hl : l = []
 ·subst hl
  cases a with
  | none => exact run_convert_bytes_nil w src e hsrc he _ _ dst hd
  | some a =>
   show (convert src dst (.slice (some a) 0 c)).run P w = _
   rw [run_convert_bytes_string w src dst e _ 0 c hsrc he hd, run_bytesToString w a 0 c [] (run_loadCells_list (P := P) w a [] (by simp))]
   rfl
 ·obtain ⟨b, o, rfl, h4⟩ := h5.resolve_left (by simpa using hl)
  have hh := run_convert_bytes_arg (P := P) w src e hsrc he b o l.length c (l.map fun x => (x.toNat : Int)) (by simp) (fun i hi => by
   rw [hs.cell (h4 i (.int .u8 (l[i].toNat : Int)) (by simp [bv, hi]))]
   simp [List.getD, hi]) dst hd
  rw [hh]
  congr 2
  unfold strOfNums
  simp only [List.map_map]
  have e : ((fun n : Int => UInt8.ofNat n.toNat) ∘ fun x : UInt8 => (x.toNat : Int)) = id := by funext x; simp
  rw [e, List.map_id]
end
set_option maxRecDepth 100000

theorem qG : (Tryz.prog.info? 5).map (fun i => (i.zero, i.size, i.bytes)) = some (some (.int .u8 0), 1, 1) := by kernel_rfl

theorem qN (F : Fz) (w : World) (v u : Value) (l m : List UInt8) (hs : Sat w F) (hv : Bs F v l) (hu : Bs F u m) :
    Calls Tryz.prog 53 #[v, u] w fun e w' => e = .returned (.bool (l == m)) ∧ w' = w := by
 have e1 := gE (P := Tryz.prog) (src := 25) (dst := 9) Tryz.underlying25 Tryz.underlying5 Tryz.underlying9 hs hv
 have e2 := gE (P := Tryz.prog) (src := 25) (dst := 9) Tryz.underlying25 Tryz.underlying5 Tryz.underlying9 hs hu
 go_enter Tryz.func53, Tryz.ntmps53
 go_wp2
 go_ret
 exact ⟨rfl, rfl⟩
def cQ (n : Nat) : Int := if 1 ≤ n ∧ n ≤ 16 then 0 else 1
theorem gZ {n : Nat} (h1 : 1 ≤ n) (h2 : n ≤ 16) : cQ n = 0 := by unfold cQ; rw [zZb ⟨h1, h2⟩]
theorem oH {n : Nat} (h : ¬ (1 ≤ n ∧ n ≤ 16)) : cQ n = 1 := by unfold cQ; rw [zZa h]
theorem jH (w : World) (a : Option Addr) (n c : Nat) (_hlc : n ≤ c) (_hcm : c ≤ maxLen) :
    Calls Tryz.prog 55 #[.slice a n c] w fun e w' => e = .returned (.int .i64 (cQ n)) ∧ w' = w := by
 by_cases h : 1 ≤ n ∧ n ≤ 16
 ·rw [gZ h.1 h.2]
  obtain ⟨h1, h2⟩ := h
  go_enter Tryz.func55, Tryz.ntmps55
  go_wp2
  go_ret
  exact ⟨rfl, rfl⟩
 ·rw [oH h]
  by_cases h1 : n < 1
  ·clear h
   go_enter Tryz.func55, Tryz.ntmps55
   go_wp2
   go_ret
   exact ⟨rfl, rfl⟩
  ·have h2 : 16 < n := by omega
   clear h
   go_enter Tryz.func55, Tryz.ntmps55
   go_wp2
   go_ret
   exact ⟨rfl, rfl⟩
theorem iH (F : Fz) (w : World) (v : Value) (l : List UInt8) (hv : Bs F v l) :
    Calls Tryz.prog 55 #[v] w fun e w' => e = .returned (.int .i64 (cQ l.length)) ∧ w' = w := by
 obtain ⟨a, c, rfl, hlc, hcm⟩ := hv.shape
 exact jH w a _ c hlc hcm
theorem AT (x k : Nat) (hx : x < 256) : (bits .and .u8 ((x : Int) / 2 ^ k) 1 == 1) = x.testBit k := by
 have e : ((x : Int) / 2 ^ k) = ((x / 2 ^ k : Nat) : Int) := by simp
 have h := u8_and_nat (x / 2 ^ k) 1 (Nat.lt_of_le_of_lt (Nat.div_le_self _ _) hx) (by omega)
 rw [e]
 rw [show ((1 : Nat) : Int) = 1 from rfl] at h
 rw [h, Nat.and_one_is_mod, Nat.testBit_eq_decide_div_mod_eq]
 rw [Bool.eq_iff_iff]
 simp
 omega
def dJ (l : List UInt8) (i : Nat) : Bool :=
  if i / 9 < l.length then (if i % 9 = 0 then true else (l.getD (i / 9) 0).toNat.testBit (8 - i % 9)) else false
theorem tC (F : Fz) (w : World) (v : Value) (l : List UInt8) (ii : Int) (hs : Sat w F) (hv : Bs F v l) (h0 : 0 ≤ ii) (hm : ii ≤ 100000) :
    Calls Tryz.prog 145 #[v, .int .i64 ii] w fun e w' => e = .returned (.bool (dJ l ii.toNat)) ∧ w' = w := by
 obtain ⟨i, rfl⟩ := Int.eq_ofNat_of_zero_le h0
 rw [Int.toNat_natCast]
 obtain ⟨a, c, rfl, hlc, hcm⟩ := hv.shape
 unfold maxLen at hcm
 by_cases h1 : i / 9 < l.length
 ·obtain ⟨b, o, rfl, hc⟩ := hv.addr (by omega)
  have hcell := hs.cell (hc (i / 9) h1)
  clear hc
  by_cases h2 : i % 9 = 0
  ·have hp : (((i : Int) % 9) == 0) = true := by rw [beq_iff_eq]; omega
   have hv : Hid (dJ l i = true) := by unfold Hid dJ; rw [zZb h1, zZb h2]
   clear h2
   go_enter Tryz.func145, Tryz.ntmps145
   go_wp2
   go_ret
   exact ⟨by rw [hv.out]; rfl, rfl⟩
  ·have hp : (((i : Int) % 9) == 0) = false := by rw [beq_eq_false_iff_ne]; omega
   go_enter Tryz.func145, Tryz.ntmps145
   go_wp2
   go_ret
   refine ⟨?_, rfl⟩
   show Ending.returned (.bool _) = _
   rw [AT _ _ (UInt8.toNat_lt _)]
   unfold dJ
   rw [zZb h1, zZa h2]
   simp [List.getD, h1]
 ·have hv : Hid (dJ l i = false) := by unfold Hid dJ; rw [zZa h1]
  go_enter Tryz.func145, Tryz.ntmps145
  go_wp2
  go_ret
  exact ⟨by rw [hv.out]; rfl, rfl⟩

def gI (a b : List UInt8) : Nat → Nat → Int
  | 0, _ => -1
  | n + 1, i => if dJ a i = dJ b i then gI a b n (i + 1) else i
def pT (a b : List UInt8) : Int := gI a b 145 0
theorem yX (F : Fz) (w : World) (v : Value) (l : List UInt8) (ii : Int) (hs : Sat w F) (hv : Bs F v l) (hl : 1 ≤ l.length) (hl2 : l.length ≤ 16) (h0 : 0 ≤ ii) (hm : ii < 145) :
    Calls Tryz.prog 124 #[v, .int .i64 ii] w fun e w' => e = .returned (.tuple #[.bool (dJ l ii.toNat), .int .i64 0]) ∧ w' = w := by
 have hc := iH F w v l hv
 rw [gZ hl hl2] at hc
 have HC := hid hc
 clear hc
 go_enter Tryz.func124, Tryz.ntmps124
 go_wp2_with (first | (go_at_call 55; refine HC.out.mono ?_; rintro e w' ⟨rfl, rfl⟩) | (go_at_call 145; refine (tC F _ _ l _ hs hv (by omega) (by omega)).mono ?_; rintro e w' ⟨rfl, rfl⟩))
 go_ret2
 exact ⟨rfl, rfl⟩
theorem FM {a b : List UInt8} {n i : Nat} (h : dJ a i = dJ b i) : gI a b (n + 1) i = gI a b n (i + 1) := by
 rw [gI, zZb h]

theorem UP (F : Fz) (w : World) (v u : Value) (a b : List UInt8) (hs : Sat w F) (hv : Bs F v a) (hu : Bs F u b) (ha : 1 ≤ a.length) (ha2 : a.length ≤ 16) (hb : 1 ≤ b.length) (hb2 : b.length ≤ 16) :
    Calls Tryz.prog 142 #[v, u] w fun e w' => e = .returned (.tuple #[.int .i64 (pT a b), .int .i64 0]) ∧ w' = w := by
 have hc := iH F w v a hv
 rw [gZ ha ha2] at hc
 have hd := iH F w u b hu
 rw [gZ hb hb2] at hd
 have HC := hid hc
 have HD := hid hd
 clear hc hd
 go_enter Tryz.func142, Tryz.ntmps142
 go_wp2_with fail
 refine HC.out.mono ?_; rintro e w' ⟨rfl, rfl⟩
 go_wp2_with fail
 refine HD.out.mono ?_; rintro e w' ⟨rfl, rfl⟩
 go_wp2_with fail
 go_loop [19] (fun t => ∃ k : Nat, k ≤ 145 ∧ t = .int .i64 k ∧ pT a b = gI a b (145 - k) k) (fun t => 145 - (intOf t).toNat)
 case atStart => exact ⟨0, by omega, rfl, rfl⟩
 case round =>
  obtain ⟨k, hk, rfl, hp⟩ := hrel
  have HP := hid hp
  clear hp
  by_cases hlt : k < 145
  ·by_cases he : dJ a k = dJ b k
   ·have hq : ((dJ a k) == (dJ b k)) = true := by simp [he]
    have HE := hid he
    clear he
    go_wp2_with fail
    refine (tC F _ _ a _ hs hv (by omega) (by omega)).mono ?_; rintro e w' ⟨rfl, rfl⟩
    go_wp2_with fail
    refine (tC F _ _ b _ hs hu (by omega) (by omega)).mono ?_; rintro e w' ⟨rfl, rfl⟩
    go_wp2_with fail
    refine ⟨⟨k + 1, by omega, by go_num, ?_⟩, by simp [intOf]; omega⟩
    have h1 := HP.out
    rw [show 145 - k = (145 - (k + 1)) + 1 from by omega, FM HE.out] at h1
    exact h1
   ·have hq : ((dJ a k) == (dJ b k)) = false := by simp [he]
    have HE := hid he
    clear he
    go_wp2_with fail
    refine (tC F _ _ a _ hs hv (by omega) (by omega)).mono ?_; rintro e w' ⟨rfl, rfl⟩
    go_wp2_with fail
    refine (tC F _ _ b _ hs hu (by omega) (by omega)).mono ?_; rintro e w' ⟨rfl, rfl⟩
    go_wp2_with fail
    go_ret2
    have h1 := HP.out
    rw [show 145 - k = (145 - (k + 1)) + 1 from by omega, gI, zZa HE.out] at h1
    exact ⟨by rw [h1]; rfl, rfl⟩
  ·go_wp2_with fail
   go_ret2
   have h1 := HP.out
   rw [show 145 - k = 0 from by omega, gI] at h1
   exact ⟨by rw [h1]; rfl, rfl⟩

def pick (n m : Int) : Int := (if n < 0 then -(n + 1) else n) % m
theorem SG (n m : Int) (h : 1 ≤ m) : 0 ≤ pick n m ∧ pick n m < m := by
 unfold pick
 exact ⟨Int.emod_nonneg _ (by omega), Int.emod_lt_of_pos _ (by omega)⟩
theorem LL (n m : Int) (w : World) (h1 : -9223372036854775808 ≤ n) (h2 : n ≤ 9223372036854775807) (hm : 1 ≤ m) (hm2 : m ≤ 10000000) :
    Calls Tryz.prog 30 #[.int .i64 n, .int .i64 m] w fun e w' => e = .returned (.int .i64 (pick n m)) ∧ w' = w := by
 by_cases h : n < 0
 ·have hp : Hid (pick n m = -((n + 1).tmod m)) := by unfold Hid pick; rw [zZb h, ← Int.neg_tmod, Int.tmod_eq_emod_of_nonneg (by omega)]
  go_enter Tryz.func30, Tryz.ntmps30
  go_wp2
  go_ret
  refine ⟨?_, rfl⟩
  rw [hp.out]
  rfl
 ·have hp : Hid (pick n m = n % m) := by unfold Hid pick; rw [zZa h]
  go_enter Tryz.func30, Tryz.ntmps30
  go_wp2
  go_ret
  exact ⟨by rw [hp.out]; rfl, rfl⟩

theorem CL (i : Nat) : dJ [] i = false := by simp [dJ]
theorem yY (x : UInt8) (a : List UInt8) : dJ (x :: a) 0 = true := by simp [dJ]
theorem nC (x : UInt8) (a : List UInt8) (i : Nat) (h1 : 1 ≤ i) (h2 : i < 9) : dJ (x :: a) i = x.toNat.testBit (8 - i) := by
 unfold dJ
 have e : i / 9 = 0 := by omega
 have e2 : i % 9 = i := by omega
 rw [e, e2, zZb (by simp), zZa (by omega)]
 rfl
theorem qO (x : UInt8) (a : List UInt8) (i : Nat) : dJ (x :: a) (i + 9) = dJ a i := by
 unfold dJ
 have e : (i + 9) / 9 = i / 9 + 1 := by omega
 have e2 : (i + 9) % 9 = i % 9 := by omega
 rw [e, e2]
 simp only [zZg, Nat.add_lt_add_iff_right, List.getD_cons_succ]
theorem LM (x y : UInt8) (h : ∀ i, 1 ≤ i → i < 9 → x.toNat.testBit (8 - i) = y.toNat.testBit (8 - i)) : x = y := by
 apply UInt8.toNat_inj.1
 apply Nat.eq_of_testBit_eq
 intro j
 by_cases hj : j < 8
 ·have := h (8 - j) (by omega) (by omega)
  rwa [show 8 - (8 - j) = j from by omega] at this
 ·have p : 256 ≤ 2 ^ j := (show (256 : Nat) = 2 ^ 8 from rfl) ▸ Nat.pow_le_pow_right (by omega) (by omega)
  rw [Nat.testBit_lt_two_pow (Nat.lt_of_lt_of_le (UInt8.toNat_lt x) p), Nat.testBit_lt_two_pow (Nat.lt_of_lt_of_le (UInt8.toNat_lt y) p)]
theorem Bu (x y : UInt8) (n : Nat) (h1 : 1 ≤ n) (h2 : n < 9) (h : ∀ i, 1 ≤ i → i < n → x.toNat.testBit (8 - i) = y.toNat.testBit (8 - i))
    (hx : x.toNat.testBit (8 - n) = false) (hy : y.toNat.testBit (8 - n) = true) : x.toNat < y.toNat := by
 have hq : x.toNat / 2 ^ (8 - n + 1) = y.toNat / 2 ^ (8 - n + 1) := by
  apply Nat.eq_of_testBit_eq
  intro j
  rw [Nat.testBit_div_two_pow, Nat.testBit_div_two_pow]
  by_cases h8 : j + (8 - n + 1) < 8
  ·have := h (8 - (j + (8 - n + 1))) (by omega) (by omega)
   rwa [show 8 - (8 - (j + (8 - n + 1))) = j + (8 - n + 1) from by omega] at this
  ·have p : 256 ≤ 2 ^ (j + (8 - n + 1)) := (show (256 : Nat) = 2 ^ 8 from rfl) ▸ Nat.pow_le_pow_right (by omega) (by omega)
   rw [Nat.testBit_lt_two_pow (Nat.lt_of_lt_of_le (UInt8.toNat_lt x) p), Nat.testBit_lt_two_pow (Nat.lt_of_lt_of_le (UInt8.toNat_lt y) p)]
 rw [Nat.pow_succ, ← Nat.div_div_eq_div_mul, ← Nat.div_div_eq_div_mul] at hq
 rw [Nat.testBit_eq_decide_div_mod_eq] at hx hy
 simp only [decide_eq_false_iff_not, decide_eq_true_eq] at hx hy
 exact Nat.lt_of_div_lt_div (c := 2 ^ (8 - n)) (by omega)
theorem SH : ∀ (m : Nat) (a b : List UInt8), a.length ≤ m → b.length ≤ m → (∀ i, i < 9 * m + 1 → dJ a i = dJ b i) → a = b
  | _, [], [], _, _, _ => rfl
  | m, [], y :: b, _, hb, h => by have := h 0 (by omega); rw [CL, yY] at this; cases this
  | m, x :: a, [], ha, _, h => by have := h 0 (by omega); rw [CL, yY] at this; cases this
  | 0, x :: a, y :: b, ha, _, _ => by simp at ha
  | m + 1, x :: a, y :: b, ha, hb, h => by
    have e : x = y := LM x y fun i h1 h2 => by
      have := h i (by omega)
      rwa [nC x a i h1 h2, nC y b i h1 h2] at this
    have ih := SH m a b (by simpa using ha) (by simpa using hb) fun i hi => by
      have := h (i + 9) (by omega)
      rwa [qO, qO] at this
    rw [e, ih]
theorem CM : ∀ (a b : List UInt8) (n : Nat), (∀ i, i < n → dJ a i = dJ b i) → dJ a n = false → dJ b n = true → Op.bytesLess a b = true
  | _, [], n, _, _, hb => by rw [CL] at hb; cases hb
  | [], _ :: _, _, _, _, _ => by simp [Op.bytesLess]
  | x :: a, y :: b, n, h, ha, hb => by
    by_cases h0 : n = 0
    · subst h0; rw [yY] at ha; cases ha
    · by_cases h9 : n < 9
      · rw [nC x a n (by omega) h9] at ha
        rw [nC y b n (by omega) h9] at hb
        have hlt : x.toNat < y.toNat := Bu x y n (by omega) h9 (fun i h1 h2 => by
          have := h i h2
          rwa [nC x a i h1 (by omega), nC y b i h1 (by omega)] at this) ha hb
        simp only [Op.bytesLess, Bool.or_eq_true, decide_eq_true_eq]
        exact .inl hlt
      · obtain ⟨k, rfl⟩ : ∃ k, n = k + 9 := ⟨n - 9, by omega⟩
        have e : x = y := LM x y fun i h1 h2 => by
          have := h i (by omega)
          rwa [nC x a i h1 h2, nC y b i h1 h2] at this
        subst e
        rw [qO] at ha hb
        have ih := CM a b k (fun i hi => by have := h (i + 9) (by omega); rwa [qO, qO] at this) ha hb
        simp only [Op.bytesLess, ih]
        simp
theorem jO : ∀ a : List UInt8, Op.bytesLess a a = false
  | [] => rfl
  | x :: a => by simp [Op.bytesLess, jO a]
theorem oI : ∀ a b : List UInt8, Op.bytesLess a b = true → Op.bytesLess b a = false
  | _, [], h => by cases ‹List UInt8› <;> cases h
  | [], _ :: _, _ => rfl
  | x :: a, y :: b, h => by
    simp only [Op.bytesLess, Bool.or_eq_true, decide_eq_true_eq, Bool.and_eq_true, beq_iff_eq] at h
    simp only [Op.bytesLess, Bool.or_eq_false_iff, decide_eq_false_iff_not, Bool.and_eq_false_iff]
    rcases h with h | ⟨rfl, h⟩
    · refine ⟨fun k => ?_, .inl ?_⟩
      · have h1 := UInt8.lt_iff_toNat_lt.1 h; have h2 := UInt8.lt_iff_toNat_lt.1 k; omega
      · rw [beq_eq_false_iff_ne]
        rintro rfl
        have h1 := UInt8.lt_iff_toNat_lt.1 h; omega
    · exact ⟨fun k => by have h2 := UInt8.lt_iff_toNat_lt.1 k; omega, .inr (oI a b h)⟩
theorem wZ : ∀ (a b : List UInt8) (n i : Nat), gI a b n i = -1 → ∀ j, i ≤ j → j < i + n → dJ a j = dJ b j
  | _, _, 0, i, _, j, h1, h2 => by omega
  | a, b, n + 1, i, h, j, h1, h2 => by
    rw [gI] at h
    split at h
    · rename_i he
      by_cases hj : j = i
      · rw [hj]; exact he
      · exact wZ a b n (i + 1) h j (by omega) (by omega)
    · omega
theorem xA : ∀ (a b : List UInt8) (n i : Nat) (m : Int), gI a b n i = m → 0 ≤ m → (i : Int) ≤ m ∧ m < i + n ∧ dJ a m.toNat ≠ dJ b m.toNat ∧ ∀ j, i ≤ j → j < m.toNat → dJ a j = dJ b j
  | _, _, 0, i, m, h, h0 => by rw [gI] at h; omega
  | a, b, n + 1, i, m, h, h0 => by
    rw [gI] at h
    split at h
    · rename_i he
      obtain ⟨h1, h2, h3, h4⟩ := xA a b n (i + 1) m h h0
      refine ⟨by omega, by omega, h3, fun j j1 j2 => ?_⟩
      by_cases hj : j = i
      · rw [hj]; exact he
      · exact h4 j (by omega) j2
    · rename_i he
      subst h
      exact ⟨by omega, by omega, by simpa using he, fun j j1 j2 => by simp at j2; omega⟩
theorem zX : ∀ (a b : List UInt8) (n i : Nat), -1 ≤ gI a b n i
  | _, _, 0, _ => by rw [gI]; omega
  | a, b, n + 1, i => by
    rw [gI]
    split
    · exact zX a b n (i + 1)
    · omega
theorem XJ (a b : List UInt8) : -1 ≤ pT a b := zX a b 145 0
theorem wC (a b : List UInt8) : (pT a b = -1 ∧ ∀ j, j < 145 → dJ a j = dJ b j) ∨
    ∃ n : Nat, n < 145 ∧ pT a b = n ∧ dJ a n ≠ dJ b n ∧ ∀ j, j < n → dJ a j = dJ b j := by
 by_cases h : pT a b = -1
 ·exact .inl ⟨h, fun j hj => wZ a b 145 0 h j (by omega) (by omega)⟩
 ·have hg := XJ a b
  obtain ⟨h1, h2, h3, h4⟩ := xA a b 145 0 (pT a b) rfl (by omega)
  refine .inr ⟨(pT a b).toNat, by omega, by omega, h3, fun j hj => h4 j (by omega) hj⟩
theorem XK {a b : List UInt8} (ha : a.length ≤ 16) (hb : b.length ≤ 16) (h : pT a b = -1) : a = b := by
 rcases wC a b with ⟨_, h2⟩ | ⟨m, m1, m2, _, _⟩
 ·exact SH 16 a b ha hb fun i hi => h2 i (by omega)
 ·omega
theorem PR {a b : List UInt8} {n : Nat} (h : pT a b = n) : dJ b n = Op.bytesLess a b := by
 rcases wC a b with ⟨h1, _⟩ | ⟨m, m1, m2, m3, m4⟩
 ·omega
 ·have : m = n := by omega
  subst this
  cases hb : dJ b m with
  | true =>
   have ha : dJ a m = false := by cases ha : dJ a m with | false => rfl | true => rw [ha, hb] at m3; exact absurd rfl m3
   rw [CM a b m m4 ha hb]
  | false =>
   have ha : dJ a m = true := by cases ha : dJ a m with | true => rfl | false => rw [ha, hb] at m3; exact absurd rfl m3
   rw [oI b a (CM b a m (fun i hi => (m4 i hi).symm) hb ha)]
open Go.RowKit Go.ChangeShapes Go.WideShapes Go.ChangeAt

def AllR {α : Type} (R : List Value → α → Prop) : List (List Value) → List α → Prop
  | [], [] => True
  | x :: xs, p :: ps => R x p ∧ AllR R xs ps
  | _, _ => False
theorem AllR.len {α : Type} {R : List Value → α → Prop} : ∀ {xs : List (List Value)} {ps : List α}, AllR R xs ps → xs.length = ps.length
  | [], [], _ => rfl
  | _ :: xs, _ :: ps, h => by simp [AllR.len (xs := xs) (ps := ps) h.2]
  | [], _ :: _, h => h.elim
  | _ :: _, [], h => h.elim
theorem AllR.imp {α : Type} {R S : List Value → α → Prop} (hi : ∀ x p, R x p → S x p) : ∀ {xs : List (List Value)} {ps : List α}, AllR R xs ps → AllR S xs ps
  | [], [], _ => trivial
  | _ :: xs, _ :: ps, h => ⟨hi _ _ h.1, AllR.imp hi (xs := xs) (ps := ps) h.2⟩
  | [], _ :: _, h => h.elim
  | _ :: _, [], h => h.elim
theorem AllR.get {α : Type} {R : List Value → α → Prop} : ∀ {xs : List (List Value)} {ps : List α}, AllR R xs ps → ∀ (i : Nat) (h1 : i < xs.length) (h2 : i < ps.length), R xs[i] ps[i]
  | _ :: _, _ :: _, h, 0, _, _ => h.1
  | _ :: xs, _ :: ps, h, i + 1, h1, h2 => AllR.get (xs := xs) (ps := ps) h.2 i (by simpa using h1) (by simpa using h2)
  | [], _, _, _, h1, _ => by simp at h1
theorem AllR.of_get {α : Type} {R : List Value → α → Prop} : ∀ {xs : List (List Value)} {ps : List α}, xs.length = ps.length → (∀ (i : Nat) (h1 : i < xs.length) (h2 : i < ps.length), R xs[i] ps[i]) → AllR R xs ps
  | [], [], _, _ => trivial
  | x :: xs, p :: ps, hl, h => ⟨h 0 (by simp) (by simp), AllR.of_get (by simpa using hl) fun i h1 h2 => h (i + 1) (by simpa using h1) (by simpa using h2)⟩
  | [], _ :: _, hl, _ => by simp at hl
  | _ :: _, [], hl, _ => by simp at hl
theorem AllR.append {α : Type} {R : List Value → α → Prop} : ∀ {xs : List (List Value)} {ps : List α} {ys : List (List Value)} {qs : List α}, AllR R xs ps → AllR R ys qs → AllR R (xs ++ ys) (ps ++ qs)
  | [], [], _, _, _, k => k
  | _ :: xs, _ :: ps, _, _, h, k => ⟨h.1, AllR.append (xs := xs) (ps := ps) h.2 k⟩
  | [], _ :: _, _, _, h, _ => h.elim
  | _ :: _, [], _, _, h, _ => h.elim
theorem AllR.take {α : Type} {R : List Value → α → Prop} : ∀ {xs : List (List Value)} {ps : List α}, AllR R xs ps → ∀ k, AllR R (xs.take k) (ps.take k)
  | [], [], _, k => by simp [AllR]
  | _ :: xs, _ :: ps, h, 0 => by simp [AllR]
  | _ :: xs, _ :: ps, h, k + 1 => ⟨h.1, AllR.take (xs := xs) (ps := ps) h.2 k⟩
  | [], _ :: _, h, _ => h.elim
  | _ :: _, [], h, _ => h.elim
theorem AllR.drop {α : Type} {R : List Value → α → Prop} : ∀ {xs : List (List Value)} {ps : List α}, AllR R xs ps → ∀ k, AllR R (xs.drop k) (ps.drop k)
  | [], [], _, k => by simp [AllR]
  | _ :: xs, _ :: ps, h, 0 => h
  | _ :: xs, _ :: ps, h, k + 1 => AllR.drop (xs := xs) (ps := ps) h.2 k
  | [], _ :: _, h, _ => h.elim
  | _ :: _, [], h, _ => h.elim
theorem oJ : ∀ {el : List (List Value)} {k : Nat}, (∀ x ∈ el, x.length = k) → ∀ (i : Nat) (hi : i < el.length) (j : Nat), j < k → el.flatten[i * k + j]? = el[i][j]?
  | [], _, _, _, hi, _, _ => by simp at hi
  | x :: el, k, h, 0, _, j, hj => by
    have hx : x.length = k := h x (by simp)
    simp [List.getElem?_append, hx, hj]
  | x :: el, k, h, i + 1, hi, j, hj => by
    have hx : x.length = k := h x (by simp)
    have ih := oJ (el := el) (k := k) (fun y hy => h y (by simp [hy])) i (by simpa using hi) j hj
    simp only [List.flatten_cons, List.getElem_cons_succ]
    rw [List.getElem?_append_right (by rw [hx, Nat.add_mul]; omega), hx, show (i + 1) * k + j - k = i * k + j from by rw [Nat.add_mul]; omega, ih]
theorem fV : ∀ {el : List (List Value)} {k : Nat}, (∀ x ∈ el, x.length = k) → el.flatten.length = el.length * k
  | [], _, _ => by simp
  | x :: el, k, h => by
    have ih := fV (el := el) (k := k) (fun y hy => h y (by simp [hy]))
    simp only [List.flatten_cons, zZf, zZg, ih, h x (by simp), Nat.add_mul]
    omega
def Sl {α : Type} (k : Nat) (R : Fz → List Value → α → Prop) (F : Fz) (v : Value) (l : List α) : Prop :=
  ∃ el : List (List Value), Rw F v l.length el.flatten ∧ AllR (R F) el l ∧ ∀ x ∈ el, x.length = k
theorem Sl.mono {α : Type} {k : Nat} {R : Fz → List Value → α → Prop} (hR : ∀ F F' x p, Le F F' → R F x p → R F' x p) {F F' : Fz} {v : Value} {l : List α} (h : Sl k R F v l) (hl : Le F F') : Sl k R F' v l := by
 obtain ⟨el, h1, h2, h3⟩ := h
 exact ⟨el, h1.mono hl, h2.imp fun x p => hR F F' x p hl, h3⟩
theorem Sl.nil {α : Type} (k : Nat) (R : Fz → List Value → α → Prop) (F : Fz) : Sl k R F (.slice none 0 0) [] := ⟨[], Rw.nil F, trivial, by simp⟩
theorem Sl.shape {α : Type} {k : Nat} {R : Fz → List Value → α → Prop} {F : Fz} {v : Value} {l : List α} (h : Sl k R F v l) : ∃ a c, v = .slice a l.length c ∧ l.length ≤ c ∧ c ≤ maxLen := by
 obtain ⟨el, h1, _⟩ := h
 exact h1.shape
theorem Sl.at {α : Type} {k : Nat} {R : Fz → List Value → α → Prop} {F : Fz} {a : Option Addr} {n c : Nat} {l : List α} (h : Sl k R F (.slice a n c) l) (hk : 0 < k) (hn : 0 < n) :
    ∃ b o, a = some ⟨b, o, none⟩ ∧ ∀ (i : Nat) (hi : i < l.length), ∃ x, x.length = k ∧ R F x l[i] ∧ ∀ j (hj : j < x.length), cS F b (o + (i * k + j)) = some x[j] := by
 obtain ⟨el, h1, h2, h3⟩ := h
 have hlen := h2.len
 have hm : n = l.length := by obtain ⟨a', c', e, _⟩ := h1; cases e; rfl
 have hne : el.flatten ≠ [] := by
  intro e
  have := congrArg List.length e
  rw [fV h3, hlen, ← hm] at this
  have := Nat.mul_pos hn hk
  simp at *
  omega
 obtain ⟨b, o, e, hc⟩ := Rw.addr h1 hne
 refine ⟨b, o, e, fun i hi => ⟨el[i]'(by omega), h3 _ (List.getElem_mem _), h2.get i (by omega) hi, fun j hj => ?_⟩⟩
 have hj' : j < k := by rw [h3 _ (List.getElem_mem _)] at hj; exact hj
 exact hc _ _ (by rw [oJ h3 i (by omega) j hj']; simp [hj])

theorem IQ (a : Addr) (i j : Nat) : (a.add i).add j = a.add (i + j) := by
 unfold Addr.add
 by_cases h1 : i = 0 <;> by_cases h2 : j = 0 <;> simp [h1, h2, Nat.add_assoc]
theorem zY {β : Type} {Q : Nat → β → Prop} : ∀ n, (∀ i, i < n → ∃ b, Q i b) → ∃ l : List β, l.length = n ∧ ∀ (i : Nat) (h : i < l.length), Q i l[i]
  | 0, _ => ⟨[], rfl, fun i h => by simp at h⟩
  | n + 1, h => by
    obtain ⟨l, h1, h2⟩ := zY n (fun i hi => h i (by omega))
    obtain ⟨b, hb⟩ := h n (by omega)
    refine ⟨l ++ [b], by simp [h1], fun i hi => ?_⟩
    by_cases hn : i < l.length
    · rw [List.getElem_append_left hn]; exact h2 i hn
    · have : i = n := by simp at hi; omega
      subst this
      simpa [h1] using hb
section
variable {H : Type} {enc : TypeId × Value → H} {P : Program} {w : World}
theorem GL {a : Addr} {v : Value} (h : w.cell? a = some v) : a.spot = none ∧ cS (whole w) a.block a.off = some v := by
 unfold World.cell? at h
 unfold cS whole
 split at h
 ·rename_i c t fr hb
  split at h
  ·cases h
  ·rename_i hs
   rw [hb]
   exact ⟨by simpa using hs, h⟩
 ·cases h
theorem XL {α : Type} {k : Nat} {R : Fz → List Value → α → Prop} {t e : TypeId} {fuel : Nat} {v : Value} {x : DataW H × List MemPlace} (ht : P.underlying t = some (.slice e)) (hc : P.cellsOf e = k) (hk : 0 < k)
    (h : DataW.trod enc P w 0 (fun _ => true) true fuel t [v] = some x)
    (hR : ∀ n cs y, cs.length = k → DataW.trod enc P w 0 (fun _ => true) true n e cs = some y → ∃ p, R (whole w) cs p) : ∃ l : List α, Sl k R (whole w) v l := by
 rcases Deep.open_slice ht h with ⟨h0, _⟩ | ⟨a, len, cap, m, n, D, Pl, h0, hb, hl, hm, hmm, _, hx⟩
 ·cases h0
  exact ⟨[], Sl.nil _ _ _⟩
 ·cases h0
  rw [hc] at hx
  have hlm : len ≤ m := by rw [hmm]; simp; exact hl
  have each : ∀ i, i < len → ∃ q : List Value × α, q.1.length = k ∧ (∀ j, j < k → w.cell? (a.add (i * k + j)) = q.1[j]?) ∧ R (whole w) q.1 q.2 := by
   intro i hi
   obtain ⟨cs', h1, h2⟩ := hx i (by omega)
   obtain ⟨h3, h4, h5⟩ := World.cells?_some h1
   obtain ⟨p, hp⟩ := hR n cs' _ h4 h2
   refine ⟨(cs', p), h4, fun j hj => ?_, hp⟩
   rw [← h5 j hj, IQ]
  obtain ⟨L, hL, hall⟩ := zY len each
  have hk3 : ∀ x ∈ L.map (·.1), x.length = k := by
   intro x hx
   obtain ⟨q, hq, rfl⟩ := List.mem_map.1 hx
   obtain ⟨i, hi, rfl⟩ := List.mem_iff_getElem.1 hq
   exact (hall i hi).1
  refine ⟨L.map (·.2), L.map (·.1), ⟨some a, cap, by simp [hL], by simpa [hL] using hl, hm, (fun h => nomatch h), ?_⟩, AllR.of_get (by simp) (fun i h1 h2 => by simpa using (hall i (by simpa using h1)).2.2), hk3⟩
  by_cases h0 : len = 0
  ·left
   have : L = [] := List.eq_nil_of_length_eq_zero (by omega)
   simp [this]
  ·right
   have c0 := (hall 0 (by omega)).2.1 0 hk
   have hl0 := (hall 0 (by omega)).1
   rw [show 0 * k + 0 = 0 from by omega] at c0
   have c0' : w.cell? a = some ((L[0]'(by omega)).1[0]'(by omega)) := by
    have e : a.add 0 = a := by simp [Addr.add]
    rw [e] at c0
    rw [c0]; simp
   have hspot := (GL c0').1
   obtain ⟨b, o, sp⟩ := a
   simp at hspot
   subst hspot
   refine ⟨b, o, rfl, fun j u hu => ?_⟩
   have hjl : j < (L.map (·.1)).flatten.length := (List.getElem?_eq_some_iff.1 hu).1
   rw [fV hk3, zZm] at hjl
   have hi : j / k < L.length := Nat.div_lt_of_lt_mul (by rw [Nat.mul_comm]; exact hjl)
   have hr : j % k < k := Nat.mod_lt _ hk
   have hj : j / k * k + j % k = j := by rw [Nat.mul_comm]; exact Nat.div_add_mod _ _
   have hf := oJ hk3 (j / k) (by simpa using hi) (j % k) hr
   rw [hj] at hf
   rw [hf] at hu
   have hc := (hall (j / k) hi).2.1 (j % k) hr
   rw [hj] at hc
   have hc' : w.cell? (Addr.add ⟨b, o, none⟩ j) = some u := by rw [hc]; simpa using hu
   have e : Addr.add ⟨b, o, none⟩ j = ⟨b, o + j, none⟩ := by unfold Addr.add; split <;> simp_all
   rw [e] at hc'
   exact (GL hc').2
end

inductive OpSpec where
  | pure
  | const (v : Value)
  | rel (R : Value → World → Prop)
def Gf (R : Value → World → Prop) : Prop := ∀ v w w', R v w → Below w.heap.size w w' → R v w'
abbrev eW := Nat → Option Value
def upd (Vs : eW) (i : Nat) (v : Value) : eW := fun j => if j = i then some v else Vs j
theorem XM (Vs : eW) {i j : Nat} (h : i ≠ j) (v u : Value) : upd (upd Vs i v) j u = upd (upd Vs j u) i v := by
 funext k
 simp only [upd]
 by_cases h1 : k = i
 ·subst h1
  simp [h]
 ·by_cases h2 : k = j
  ·subst h2
   simp [h1]
  ·simp [h1, h2]
def kJ (s : OpSpec) (v : Value) (w : World) : Prop := match s with | .rel R => R v w | _ => True
def oK (s : OpSpec) (Vs : eW) (i : Nat) (v : Value) : eW := match s with | .rel _ => upd Vs i v | _ => Vs
theorem UQ (s t : OpSpec) (Vs : eW) {i j : Nat} (h : i ≠ j) (v u : Value) : oK t (oK s Vs i v) j u = oK s (oK t Vs j u) i v := by
 cases s <;> cases t <;> simp [oK]
 exact XM Vs h v u
def kN (md : Region.Mode) (ops : Array Oper) : Nat → Nat → Nat → Bool
  | 0, _, _ => false
  | f + 1, j, i => match ops[j]? with
    | some o => o.after.any fun e => Region.binds md e && (e.on == i || kN md ops f e.on i)
    | none => false
section
variable {P : Program} {ops : Array Oper} {md : Region.Mode} {C : World → Prop} {Sp : Nat → OpSpec}
theorem CN {n : Nat} {listed : Array Bool} (inv : HeadInv md ops n listed) : ∀ (f x i : Nat), listed.getD x false = true → kN md ops f x i = true → listed.getD i false = true
  | 0, _, _, _, h => by simp [kN] at h
  | f + 1, x, i, hx, h => by
    unfold kN at h
    split at h
    · rename_i o ho
      obtain ⟨e, he, hb⟩ := Array.any_eq_true'.1 h
      simp only [Bool.and_eq_true, Bool.or_eq_true, beq_iff_eq] at hb
      have hl := inv.closed x o ho hx e he hb.1
      rcases hb.2 with h1 | h1
      · rw [h1] at hl; exact hl
      · exact CN inv f e.on i hl h1
    · cases h
theorem kC {n : Nat} {listed : Array Bool} (inv : HeadInv md ops n listed) {j : Nat} (hj : j ∈ Region.ready md ops listed) (f i : Nat) (h : kN md ops f j i = true) : listed.getD i false = true := by
 cases f with
 | zero => simp [kN] at h
 | succ f =>
  obtain ⟨_, o, ho, hall⟩ := mem_ready.1 hj
  unfold kN at h
  rw [ho] at h
  obtain ⟨e, he, hb⟩ := Array.any_eq_true'.1 h
  simp only [Bool.and_eq_true, Bool.or_eq_true, beq_iff_eq] at hb
  have hl := hall e he hb.1
  rcases hb.2 with h1 | h1
  ·rw [h1] at hl; exact hl
  ·exact CN inv f e.on i hl h1
def Facts (Sp : Nat → OpSpec) (Vs : eW) (w : World) : Prop := ∀ i v, Vs i = some v → kJ (Sp i) v w
def FactsAt (md : Region.Mode) (ops : Array Oper) (Sp : Nat → OpSpec) (j : Nat) (Vs : eW) (w : World) : Prop := ∀ i v, kN md ops ops.size j i = true → Vs i = some v → kJ (Sp i) v w
theorem xB {i j : Nat} (h : kN md ops ops.size j i = false) (Vs : eW) (v : Value) (w : World) : FactsAt md ops Sp j (oK (Sp i) Vs i v) w ↔ FactsAt md ops Sp j Vs w := by
 have e : ∀ k, kN md ops ops.size j k = true → oK (Sp i) Vs i v k = Vs k := by
  intro k hk
  cases Sp i with
  | pure => rfl
  | const _ => rfl
  | rel R =>
   show upd Vs i v k = _
   unfold upd
   rw [zZa (by rintro rfl; rw [h] at hk; cases hk)]
 constructor
 ·intro H k u hk hu; exact H k u hk (by rw [e k hk]; exact hu)
 ·intro H k u hk hu; exact H k u hk (by rw [← e k hk]; exact hu)
def qP (Φ : Value → World → Prop) (e : Ending) (w' : World) : Prop := ∃ v, e = .returned v ∧ Φ v w'
def wD (v : Value) (w : World) (u : Value) (w' : World) : Prop := u = v ∧ Below w.heap.size w w'
def kV (R : Value → World → Prop) (w : World) (u : Value) (w' : World) : Prop := R u w' ∧ Below w.heap.size w w'
def GM (P : Program) (w : World) (Φ : Value → World → Prop) : Result Next → Prop
  | .ok (.value u) w' => Φ u w'
  | .ok .skip w' => Φ undef w'
  | .ok (.enter f args) w' => w' = w ∧ Calls P f args w (qP Φ)
  | _ => False
def kO (P : Program) (o : Oper) (a : Act) (w : World) (Φ : Value → World → Prop) : Prop := GM P w Φ ((execOp a.eval o).run P w)
def zZ (w : World) (v : Value) : Result Next → Prop
  | .ok (.value u) w' => w' = w ∧ u = v
  | .ok .skip w' => w' = w ∧ undef = v
  | _ => False
def PureAt (P : Program) (o : Oper) (a : Act) (w : World) (v : Value) : Prop := zZ w v ((execOp a.eval o).run P w)
theorem PureAt.unique {o : Oper} {a : Act} {w : World} {v u : Value} (h : PureAt P o a w v) (k : PureAt P o a w u) : v = u := by
 unfold PureAt at *
 generalize (execOp a.eval o).run P w = r at *
 cases r with
 | ok n w' => cases n <;> simp only [zZ] at h k <;> exact h.2.symm.trans k.2
 | halt x w' => simp only [zZ] at h
theorem Oper.wp_of_does {o : Oper} {a : Act} {w : World} {Φ : Value → World → Prop} {K : Act → World → Prop} {Q' : Exit → Act → World → Prop} (h : kO P o a w Φ) (hk : ∀ v w', Φ v w' → K (a.put o.dst v) w') : o.wp P a w K Q' := by
 unfold kO at h
 unfold Oper.wp
 generalize (execOp a.eval o).run P w = r at *
 cases r with
 | ok n w' =>
  cases n <;> simp only [GM] at h <;> simp only [Oper.upon]
  case value u => exact hk _ _ h
  case skip => exact hk _ _ h
  case enter f args =>
   obtain ⟨rfl, h⟩ := h
   exact h.mono fun e w'' hh => by obtain ⟨v, he, hw⟩ := hh; subst he; exact hk _ _ hw
 | halt x w' => simp only [GM] at h
theorem Oper.wp_of_pure {o : Oper} {a : Act} {w : World} {v : Value} {K : Act → World → Prop} {Q' : Exit → Act → World → Prop} (h : PureAt P o a w v) (hk : K (a.put o.dst v) w) : o.wp P a w K Q' := by
 unfold PureAt at h
 unfold Oper.wp
 generalize (execOp a.eval o).run P w = r at *
 cases r with
 | ok n w' =>
  cases n <;> simp only [zZ] at h <;> simp only [Oper.upon]
  case value u => obtain ⟨rfl, rfl⟩ := h; exact hk
  case skip => obtain ⟨rfl, rfl⟩ := h; exact hk
 | halt x w' => simp only [zZ] at h
def Ob (P : Program) (md : Region.Mode) (ops : Array Oper) (C : World → Prop) (Sp : Nat → OpSpec) (i : Nat) (o : Oper) (a : Act) (Vs : eW) (S : Value → Prop) : Prop :=
  match Sp i with
  | .pure => ∃ v, S = (fun u => u = v) ∧ ∀ w, C w → PureAt P o a w v
  | .const v => S = (fun u => u = v) ∧ ∀ w, C w → FactsAt md ops Sp i Vs w → kO P o a w (wD v w)
  | .rel R => S = (fun _ => True) ∧ ∀ w, C w → FactsAt md ops Sp i Vs w → kO P o a w (kV R w)
theorem Ob.some {i : Nat} {o : Oper} {a : Act} {Vs : eW} {S : Value → Prop} (h : Ob P md ops C Sp i o a Vs S) : ∃ v, S v := by
 unfold Ob at h
 split at h
 ·obtain ⟨v, rfl, _⟩ := h; exact ⟨v, rfl⟩
 ·rename_i v _; obtain ⟨rfl, _⟩ := h; exact ⟨v, rfl⟩
 ·obtain ⟨rfl, _⟩ := h; exact ⟨undef, trivial⟩
theorem Ob.unique (hC : ∃ w, C w) {i : Nat} {o : Oper} {a : Act} {Vs : eW} {S T : Value → Prop} (h : Ob P md ops C Sp i o a Vs S) (k : Ob P md ops C Sp i o a Vs T) : S = T := by
 obtain ⟨w, hw⟩ := hC
 unfold Ob at h k
 split at h
 ·rename_i e
  simp only [e] at k
  obtain ⟨v, rfl, h1⟩ := h
  obtain ⟨u, rfl, k1⟩ := k
  rw [(h1 w hw).unique (k1 w hw)]
 ·rename_i v e
  simp only [e] at k
  rw [h.1, k.1]
 ·rename_i R e
  simp only [e] at k
  rw [h.1, k.1]
theorem Ob.congr {i : Nat} {o : Oper} {a a' : Act} {Vs Vs' : eW} {S : Value → Prop} (he : execOp a'.eval o = execOp a.eval o) (hf : ∀ w, FactsAt md ops Sp i Vs' w ↔ FactsAt md ops Sp i Vs w) (h : Ob P md ops C Sp i o a Vs S) : Ob P md ops C Sp i o a' Vs' S := by
 unfold Ob at *
 split
 ·rename_i e
  simp only [e] at h
  obtain ⟨v, h1, h2⟩ := h
  exact ⟨v, h1, fun w hw => by have := h2 w hw; unfold PureAt at *; rw [he]; exact this⟩
 ·rename_i v e
  simp only [e] at h
  exact ⟨h.1, fun w hw hF => by have := h.2 w hw ((hf w).1 hF); unfold kO at *; rw [he]; exact this⟩
 ·rename_i R e
  simp only [e] at h
  exact ⟨h.1, fun w hw hF => by have := h.2 w hw ((hf w).1 hF); unfold kO at *; rw [he]; exact this⟩
def gOp (P : Program) (md : Region.Mode) (ops : Array Oper) (C : World → Prop) (Sp : Nat → OpSpec) (i : Nat) (K : Act → eW → Prop) (a : Act) (Vs : eW) : Prop :=
  match ops[i]? with
  | none => K a Vs
  | some o => if Region.wanted o (yielded ops a.tmps) = true then ∃ S, Ob P md ops C Sp i o a Vs S ∧ ∀ v, S v → K (a.put o.dst v) (oK (Sp i) Vs i v) else K (a.put o.dst undef) Vs
theorem lT {i : Nat} {K K' : Act → eW → Prop} {a : Act} {Vs : eW} (h : ∀ a Vs, K a Vs → K' a Vs) (hh : gOp P md ops C Sp i K a Vs) : gOp P md ops C Sp i K' a Vs := by
 unfold gOp at *
 split
 ·rename_i e; simp only [e] at hh; exact h _ _ hh
 ·rename_i o e
  simp only [e] at hh
  split
  ·rename_i hw; rw [zZb hw] at hh; obtain ⟨S, h1, h2⟩ := hh; exact ⟨S, h1, fun v hv => h _ _ (h2 v hv)⟩
  ·rename_i hw; rw [zZa hw] at hh; exact h _ _ hh
theorem CO {i : Nat} {K : Act → eW → Prop} {a : Act} {Vs : eW} (hh : gOp P md ops C Sp i K a Vs) : ∃ a' Vs', K a' Vs' := by
 unfold gOp at hh
 split at hh
 ·exact ⟨_, _, hh⟩
 ·split at hh
  ·obtain ⟨S, h1, h2⟩ := hh
   obtain ⟨v, hv⟩ := h1.some
   exact ⟨_, _, h2 v hv⟩
  ·exact ⟨_, _, hh⟩
theorem CP (hC : ∃ w, C w) {i j : Nat} {oi oj : Oper} (hi : ops[i]? = some oi) (hj : ops[j]? = some oj) (hij : i ≠ j) (hap : oi.apart ops oj = true)
    (hsi : ∀ cs b, oi.op ≠ .select cs b) (hsj : ∀ cs b, oj.op ≠ .select cs b) (hni : kN md ops ops.size j i = false) (hnj : kN md ops ops.size i j = false)
    {K : Act → eW → Prop} {a : Act} {Vs : eW} (h : gOp P md ops C Sp i (gOp P md ops C Sp j K) a Vs) : gOp P md ops C Sp j (gOp P md ops C Sp i K) a Vs := by
 obtain ⟨h1, h2, h3⟩ := Oper.apart_spec hap
 have wj : ∀ (a : Act) (v : Value), Region.wanted oj (yielded ops (a.put oi.dst v).tmps) = Region.wanted oj (yielded ops a.tmps) := fun a v => wanted_put oj a oi.dst v h1
 have wi : ∀ (a : Act) (v : Value), Region.wanted oi (yielded ops (a.put oj.dst v).tmps) = Region.wanted oi (yielded ops a.tmps) := fun a v => wanted_put oi a oj.dst v h3
 have ej : ∀ (a : Act) (v : Value), execOp (a.put oi.dst v).eval oj = execOp a.eval oj := fun a v => execOp_put oj hsj a oi.dst v h1
 have ei : ∀ (a : Act) (v : Value), execOp (a.put oj.dst v).eval oi = execOp a.eval oi := fun a v => execOp_put oi hsi a oj.dst v h3
 unfold gOp at h ⊢
 simp only [hi, hj] at h ⊢
 by_cases Wi : Region.wanted oi (yielded ops a.tmps) = true
 ·rw [zZb Wi] at h
  obtain ⟨S, hS, hall⟩ := h
  obtain ⟨v0, hv0⟩ := hS.some
  by_cases Wj : Region.wanted oj (yielded ops a.tmps) = true
  ·rw [zZb Wj]
   have hall' : ∀ v, S v → ∃ T, Ob P md ops C Sp j oj a Vs T ∧ ∀ u, T u → K ((a.put oi.dst v).put oj.dst u) (oK (Sp j) (oK (Sp i) Vs i v) j u) := by
    intro v hv
    have := hall v hv
    rw [zZb (by rw [wj]; exact Wj)] at this
    obtain ⟨T, hT, hK⟩ := this
    exact ⟨T, hT.congr (ej a v).symm (fun w => (xB hni Vs v w).symm), hK⟩
   obtain ⟨T, hT, _⟩ := hall' v0 hv0
   refine ⟨T, hT, fun u hu => ?_⟩
   rw [zZb (by rw [wi]; exact Wi)]
   refine ⟨S, hS.congr (ei a u) (fun w => xB hnj Vs u w), fun v hv => ?_⟩
   obtain ⟨T', hT', hK⟩ := hall' v hv
   have := hK u (by rw [← hT.unique hC hT']; exact hu)
   rwa [Act.put_comm a v u h2, UQ (Sp i) (Sp j) Vs hij v u] at this
  ·rw [zZa Wj, zZb (by rw [wi]; exact Wi)]
   refine ⟨S, hS.congr (ei a undef) (fun w => Iff.rfl), fun v hv => ?_⟩
   have := hall v hv
   rw [zZa (by rw [wj]; exact Wj)] at this
   rwa [Act.put_comm a v undef h2] at this
 ·rw [zZa Wi] at h
  by_cases Wj : Region.wanted oj (yielded ops a.tmps) = true
  ·rw [zZb (by rw [wj]; exact Wj)] at h
   obtain ⟨T, hT, hK⟩ := h
   rw [zZb Wj]
   refine ⟨T, hT.congr (ej a undef).symm (fun w => Iff.rfl), fun u hu => ?_⟩
   rw [zZa (by rw [wi]; exact Wi)]
   have := hK u hu
   rwa [Act.put_comm a undef u h2] at this
  ·rw [zZa (by rw [wj]; exact Wj)] at h
   rw [zZa Wj, zZa (by rw [wi]; exact Wi)]
   rwa [Act.put_comm a undef undef h2] at h
def qH (P : Program) (md : Region.Mode) (ops : Array Oper) (C : World → Prop) (Sp : Nat → OpSpec) (n : Nat) (L : Array Bool → Act → eW → Prop) : Nat → Array Bool → Act → eW → Prop
  | 0, listed, a, Vs => L listed a Vs
  | f + 1, listed, a, Vs => Region.ready md ops listed ≠ [] ∧ ∀ i ∈ Region.ready md ops listed, i < n ∧ gOp P md ops C Sp i (qH P md ops C Sp n L f (listed.setIfInBounds i true)) a Vs
theorem lA (hst : ∀ i v w w', kJ (Sp i) v w → Below w.heap.size w w' → kJ (Sp i) v w') (hCE : ∀ w w', C w → Below w.heap.size w w' → C w') {n g : Nat} {L : Array Bool → Act → eW → Prop} {Q' : Exit → Act → World → Prop}
    (hL : ∀ listed a Vs w, C w → Facts Sp Vs w → L listed a Vs → wpAny P md ops Q' g listed a w) :
    ∀ (f : Nat) (listed : Array Bool) (a : Act) (Vs : eW) (w : World), C w → Facts Sp Vs w → qH P md ops C Sp n L f listed a Vs → wpAny P md ops Q' (f + g) listed a w
  | 0, listed, a, Vs, w, hc, hF, h => by rw [Nat.zero_add]; exact hL _ _ _ _ hc hF h
  | f + 1, listed, a, Vs, w, hc, hF, h => by
    rw [show f + 1 + g = (f + g) + 1 by omega]
    refine ⟨fun h0 => absurd h0 h.1, fun i hi => ?_⟩
    have hg := (h.2 i hi).2
    unfold gOp at hg
    unfold wpOp
    split
    · rename_i e
      simp only [e] at hg
      exact lA hst hCE hL f _ a Vs w hc hF hg
    · rename_i o e
      simp only [e] at hg
      split
      · rename_i hw
        rw [zZb hw] at hg
        obtain ⟨S, hS, hall⟩ := hg
        left
        unfold Ob at hS
        split at hS
        · rename_i es
          obtain ⟨v, rfl, hp⟩ := hS
          have hn := hall v rfl
          simp only [es, oK] at hn
          exact Oper.wp_of_pure (hp w hc) (lA hst hCE hL f _ _ Vs w hc hF hn)
        · rename_i v es
          obtain ⟨rfl, hp⟩ := hS
          have hn := hall v rfl
          simp only [es, oK] at hn
          refine Oper.wp_of_does (hp w hc fun i' v' _ hv => hF i' v' hv) fun u w' ⟨hu, hb⟩ => ?_
          subst hu
          exact lA hst hCE hL f _ _ Vs w' (hCE w w' hc hb) (fun i' v' hv => hst i' v' w w' (hF i' v' hv) hb) hn
        · rename_i R es
          obtain ⟨rfl, hp⟩ := hS
          refine Oper.wp_of_does (hp w hc fun i' v' _ hv => hF i' v' hv) fun u w' ⟨hu, hb⟩ => ?_
          have hn := hall u trivial
          refine lA hst hCE hL f _ _ _ w' (hCE w w' hc hb) (fun i' v' hv => ?_) hn
          simp only [es, oK] at hv
          unfold upd at hv
          split at hv
          · rename_i e'
            subst e'
            cases hv
            simp only [es, kJ]
            exact hu
          · exact hst i' v' w w' (hF i' v' hv) hb
      · rename_i hw
        rw [zZa hw] at hg
        exact lA hst hCE hL f _ _ Vs w hc hF hg
theorem IR (hC : ∃ w, C w) {n i : Nat} {oi : Oper} {L : Array Bool → Act → eW → Prop} (hi : ops[i]? = some oi) (hsel : ∀ (j : Nat) (o : Oper) cs b, ops[j]? = some o → o.op ≠ .select cs b)
    (hs : Region.sinkB md ops n = true) (hc : Region.chainB md ops n = true) (hn : n < ops.size) (hin : i < n)
    (hdone : ∀ listed a Vs, L listed a Vs → ∀ j ∈ Region.ready md ops listed, n ≤ j) :
    ∀ (f : Nat) (listed : Array Bool) (a : Act) (Vs : eW), HeadInv md ops n listed →
      (∀ j oj, ops[j]? = some oj → j ≠ i → listed.getD j true = false → (∀ e ∈ oj.after, Region.binds md e = true → e.on ≠ i) → oi.apart ops oj = true) →
      i ∈ Region.ready md ops listed →
      gOp P md ops C Sp i (qH P md ops C Sp n L f (listed.setIfInBounds i true)) a Vs → qH P md ops C Sp n L (f + 1) listed a Vs := by
 intro f
 induction f with
 | zero =>
  intro listed a Vs inv _ hr H
  have hun := (mem_ready.1 hr).1
  refine ⟨fun h => (by rw [h] at hr; cases hr), fun j hj => ?_⟩
  have hjn : j < n := by
   rcases Nat.lt_or_ge j n with h | h
   ·exact h
   ·exact absurd hj (tail_waits hs hc hn inv _ i rfl hin hun j h)
  refine ⟨hjn, ?_⟩
  by_cases hji : j = i
  ·subst hji; exact H
  ·obtain ⟨a', Vs', hL⟩ := CO H
   have := hdone _ _ _ hL j (ready_mono hj hji)
   omega
 | succ f ih =>
  intro listed a Vs inv hfree hr H
  have hun := (mem_ready.1 hr).1
  refine ⟨fun h => (by rw [h] at hr; cases hr), fun j hj => ?_⟩
  have hjn : j < n := by
   rcases Nat.lt_or_ge j n with h | h
   ·exact h
   ·exact absurd hj (tail_waits hs hc hn inv _ i rfl hin hun j h)
  refine ⟨hjn, ?_⟩
  by_cases hji : j = i
  ·subst hji; exact H
  ·obtain ⟨hjun, oj, hoj, hall⟩ := mem_ready.1 hj
   have hnot : ∀ e ∈ oj.after, Region.binds md e = true → e.on ≠ i := fun e he hb heq => by
    have h1 := hall e he hb
    rw [heq, getD_both hun] at h1
    cases h1
   have a1 : kN md ops ops.size j i = false := by
    cases hx : kN md ops ops.size j i with
    | false => rfl
    | true => have := kC inv hj _ _ hx; rw [getD_both hun] at this; cases this
   have a2 : kN md ops ops.size i j = false := by
    cases hx : kN md ops ops.size i j with
    | false => rfl
    | true => have := kC inv hr _ _ hx; rw [getD_both hjun] at this; cases this
   have H1 : gOp P md ops C Sp i (gOp P md ops C Sp j (qH P md ops C Sp n L f ((listed.setIfInBounds i true).setIfInBounds j true))) a Vs :=
    lT (fun a' Vs' h => (h.2 j (ready_mono hj hji)).2) H
   have H2 := CP hC hi hoj (Ne.symm hji) (hfree j oj hoj hji hjun hnot) (fun cs b => hsel i oi cs b hi) (fun cs b => hsel j oj cs b hoj) a1 a2 H1
   have hfree' : ∀ k ok, ops[k]? = some ok → k ≠ i → (listed.setIfInBounds j true).getD k true = false →
     (∀ e ∈ ok.after, Region.binds md e = true → e.on ≠ i) → oi.apart ops ok = true := fun k ok hk hki hun' hno => by
    refine hfree k ok hk hki ?_ hno
    by_cases hjk : j = k
    ·subst hjk; exact hjun
    ·rw [getD_set_ne true hjk] at hun'; exact hun'
   refine lT (fun a' Vs' h3 => ih (listed.setIfInBounds j true) a' Vs' (inv.set hj hjn) hfree' (ready_mono hr (Ne.symm hji)) ?_) H2
   rw [Array.setIfInBounds_comm _ _ hji]
   exact h3
def wpG (P : Program) (md : Region.Mode) (ops : Array Oper) (C : World → Prop) (Sp : Nat → OpSpec) (Lq : Act → eW → Prop) : List Oper → Nat → Act → eW → Prop
  | [], _, a, Vs => Lq a Vs
  | o :: l, k, a, Vs => if Region.wanted o (yielded ops a.tmps) = true then ∃ S, Ob P md ops C Sp k o a Vs S ∧ ∀ v, S v → wpG P md ops C Sp Lq l (k + 1) (a.put o.dst v) (oK (Sp k) Vs k v) else wpG P md ops C Sp Lq l (k + 1) (a.put o.dst undef) Vs
theorem CQ (hC : ∃ w, C w) {n g : Nat} {Lq : Act → eW → Prop} (hsel : Region.noSelect ops = true) (hs : Region.sinkB md ops n = true) (hc : Region.chainB md ops n = true) (hn : n < ops.size) :
    ∀ (l : List Oper) (k : Nat) (listed : Array Bool) (a : Act) (Vs : eW), (∀ j, j < l.length → l[j]? = ops[k + j]?) → k + l.length = n → HeadInv md ops n listed →
    Region.lexHead md ops g l.length k listed = true → wpG P md ops C Sp Lq l k a Vs →
    qH P md ops C Sp n (fun listed' a' Vs' => Region.seqB md ops g n listed' = true ∧ Lq a' Vs') l.length listed a Vs
  | [], k, listed, a, Vs, _, hk, _, hB, h => by
    have : k = n := by simpa using hk
    subst this
    exact ⟨by simpa [Region.lexHead] using hB, h⟩
  | o :: l, k, listed, a, Vs, hl, hk, inv, hB, h => by
    have h0 : ops[k]? = some o := by simpa using (hl 0 (by simp)).symm
    simp only [zZg, Region.lexHead, Bool.and_eq_true] at hB
    obtain ⟨⟨hr, hf⟩, hB'⟩ := hB
    have hkn : k < n := by simp only [zZg] at hk; omega
    have hr' : k ∈ Region.ready md ops listed := by simpa using hr
    have hg : gOp P md ops C Sp k (wpG P md ops C Sp Lq l (k + 1)) a Vs := by unfold gOp; simp only [h0]; exact h
    exact IR hC h0 (Region.noSelect_spec hsel) hs hc hn hkn (fun listed' a' Vs' hL => seqB_ready hL.1) l.length listed a Vs inv (Region.free_spec h0 hf) hr'
      (lT (fun a' Vs' h' => CQ hC hsel hs hc hn l (k + 1) _ a' Vs' (fun j hj => by have := hl (j + 1) (by simp; omega); simpa [Nat.add_assoc, Nat.add_comm 1 j] using this) (by simp only [zZg] at hk; omega) (inv.set hr' hkn) hB' h') hg)
end
theorem CR {P : Program} {id : Nat} {Q : Exit → Act → World → Prop} {a : Act} {w : World} {l : List Oper} (n : Nat) (Sp : Nat → OpSpec) (hm : P.follows .mixedOrders = true) (hB : Region.lexTailB .any l.toArray n = true)
    (hst : ∀ i v w w', kJ (Sp i) v w → Below w.heap.size w w' → kJ (Sp i) v w')
    (h : wpG P .any l.toArray (fun w' => Below w.heap.size w w') Sp (fun a' Vs => ∀ w', Below w.heap.size w w' → Facts Sp Vs w' → wpList P l.toArray Q (l.drop n) a' w') (l.take n) 0 a (fun _ => none)) : (Code.region id l.toArray true).wp P Q a w := by
 simp only [Region.lexTailB, Bool.and_eq_true, decide_eq_true_eq] at hB
 obtain ⟨⟨⟨⟨hsel, hn⟩, hs⟩, hc⟩, hlex⟩ := hB
 have hn' : n < l.length := by simpa using hn
 have htl : (l.take n).length = n := by simp; omega
 have hdl : (l.drop n).length = l.toArray.size - n := by simp
 have inv0 : HeadInv .any l.toArray n (Array.replicate l.toArray.size false) :=
  ⟨by simp, fun j oj _ hl => (by rw [getD_replicate_false] at hl; cases hl), fun t _ ht => getD_in (by simpa using ht) (getD_replicate_false _ _)⟩
 have H := CQ (md := .any) (g := l.toArray.size - n) ⟨w, Below.refl _ _⟩ hsel hs hc hn (l.take n) 0 _ a _ (fun j hj => by
  have hj' : j < n := by rw [htl] at hj; exact hj
  simp [hj']) (by simpa using htl) inv0 (by rw [htl]; exact hlex) h
 refine wp_region_any hm ?_
 have := lA (Q' := Q) (g := l.toArray.size - n) hst (fun w1 w2 h1 h2 => h1.trans (h2.mono h1.size)) (fun listed a' Vs w' hC hF hL => by
  have := wpAny_of_seq (md := .any) (Q' := Q) (l.drop n) n listed a' w' (fun j => by simp [List.getElem?_drop]) (by rw [hdl]; exact hL.1) (hL.2 w' hC hF)
  rwa [hdl] at this) _ _ _ _ ({ w with drawn := w.drawn + 1 } : World) (Below.refl w.heap.size w).drew (fun i v h => by cases h) H
 rw [htl, show n + (l.toArray.size - n) = l.toArray.size by omega] at this
 exact this
section
variable {P : Program} {ops : Array Oper} {md : Region.Mode} {C : World → Prop} {Sp : Nat → OpSpec} {Lq : Act → eW → Prop} {o : Oper} {l : List Oper} {k : Nat} {a : Act} {Vs : eW}
@[go_sem] theorem Fp (w w' : World) (Φ : Value → World → Prop) (u : Value) : GM P w Φ (.ok (.value u) w') = Φ u w' := rfl
@[go_sem] theorem Fq (w w' : World) (Φ : Value → World → Prop) (f : FuncId) (args : Array Value) : GM P w Φ (.ok (.enter f args) w') = (w' = w ∧ Calls P f args w (qP Φ)) := rfl
@[go_sem] theorem Fr (w w' : World) (v u : Value) : zZ w v (.ok (.value u) w') = (w' = w ∧ u = v) := rfl
theorem Bv (h : Lq a Vs) : wpG P md ops C Sp Lq [] k a Vs := h
theorem XN (hw : Region.wanted o (yielded ops a.tmps) = true) (hs : Sp k = .pure) (v : Value) (h : ∀ w, C w → PureAt P o a w v) (hn : wpG P md ops C Sp Lq l (k + 1) (a.put o.dst v) Vs) : wpG P md ops C Sp Lq (o :: l) k a Vs := by
 unfold wpG
 rw [zZb hw]
 refine ⟨fun u => u = v, by unfold Ob; rw [hs]; exact ⟨v, rfl, h⟩, fun u hu => ?_⟩
 subst hu
 rw [hs]
 exact hn
theorem UR (hw : Region.wanted o (yielded ops a.tmps) = true) {v : Value} (hs : Sp k = .const v) (h : ∀ w, C w → FactsAt md ops Sp k Vs w → kO P o a w (wD v w)) (hn : wpG P md ops C Sp Lq l (k + 1) (a.put o.dst v) Vs) : wpG P md ops C Sp Lq (o :: l) k a Vs := by
 unfold wpG
 rw [zZb hw]
 refine ⟨fun u => u = v, by unfold Ob; rw [hs]; exact ⟨rfl, h⟩, fun u hu => ?_⟩
 subst hu
 rw [hs]
 exact hn
theorem Bw (hw : Region.wanted o (yielded ops a.tmps) = true) {R : Value → World → Prop} (hs : Sp k = .rel R) (h : ∀ w, C w → FactsAt md ops Sp k Vs w → kO P o a w (kV R w)) (hn : ∀ v, wpG P md ops C Sp Lq l (k + 1) (a.put o.dst v) (upd Vs k v)) : wpG P md ops C Sp Lq (o :: l) k a Vs := by
 unfold wpG
 rw [zZb hw]
 refine ⟨fun _ => True, by unfold Ob; rw [hs]; exact ⟨rfl, h⟩, fun u _ => ?_⟩
 rw [hs]
 exact hn u
theorem XO (hw : Region.wanted o (yielded ops a.tmps) = false) (hn : wpG P md ops C Sp Lq l (k + 1) (a.put o.dst undef) Vs) : wpG P md ops C Sp Lq (o :: l) k a Vs := by
 unfold wpG
 rw [zZa (by rw [hw]; exact Bool.false_ne_true)]
 exact hn
end
def Made (w0 : World) (F : Fz) (R : Fz → Value → Prop) (v : Value) (w : World) : Prop := ∃ F', Gr w0 F w F' ∧ R F' v
theorem Made.stable {w0 : World} {F : Fz} {R : Fz → Value → Prop} {v : Value} {w w' : World} (h : Made w0 F R v w) (hb : Below w.heap.size w w') : Made w0 F R v w' := by
 obtain ⟨F', g, r⟩ := h
 exact ⟨F', g.trans (Gr.of_below g.sat hb), r⟩
theorem dQ {P : Program} {f : FuncId} {args : Array Value} {w0 w : World} {F : Fz} {R : Fz → Value → Prop} (hs : Sat w0 F) (hC : Below w0.heap.size w0 w) (h : Calls P f args w (dF w F R)) : Calls P f args w (qP (kV (Made w0 F R) w)) :=
  h.mono fun e w' hh => by
    obtain ⟨v, F', he, g, r⟩ := hh
    exact ⟨v, he, ⟨F', (Gr.of_below hs hC).trans g, r⟩, g.below⟩
theorem fE {P : Program} {f : FuncId} {args : Array Value} {w : World} {v : Value} (h : Calls P f args w (cT w v)) : Calls P f args w (qP (wD v w)) :=
  h.mono fun _ _ hh => ⟨v, hh.1, rfl, hh.2⟩
inductive Mark where
  | is (v : Value)
  | made (R : Fz → Value → Prop)
  | rel (R : Value → World → Prop) (st : ∀ v w w', R v w → Below w.heap.size w w' → R v w')
def gQ (W : World) (F : Fz) (L : List (Nat × Mark)) (i : Nat) : OpSpec :=
  match L.lookup i with
  | some (.is v) => .const v
  | some (.made R) => .rel (Made W F R)
  | some (.rel R _) => .rel R
  | none => .pure
theorem vT {W : World} {F : Fz} {L : List (Nat × Mark)} : ∀ i v w w', kJ (gQ W F L i) v w → Below w.heap.size w w' → kJ (gQ W F L i) v w' := by
 intro i v w w' h hb
 unfold gQ at *
 split
 ·trivial
 ·rename_i R e
  simp only [e] at h
  exact Made.stable h hb
 ·rename_i R st e
  simp only [e] at h
  exact st _ _ _ h hb
 ·trivial
theorem CS {P : Program} {id : Nat} {Q : Exit → Act → World → Prop} {a : Act} {W : World} {l : List Oper} (F : Fz) (n : Nat) (L : List (Nat × Mark)) (hm : P.follows .mixedOrders = true) (hB : Region.lexTailB .any l.toArray n = true)
    (h : wpG P .any l.toArray (fun w' => Below W.heap.size W w') (gQ W F L) (fun a' Vs => ∀ w', Below W.heap.size W w' → Facts (gQ W F L) Vs w' → wpList P l.toArray Q (l.drop n) a' w') (l.take n) 0 a (fun _ => none)) : (Code.region id l.toArray true).wp P Q a W :=
  CR n (gQ W F L) hm hB vT h
theorem Facts.get {W : World} {F : Fz} {L : List (Nat × Mark)} {Vs : eW} {w : World} (h : Facts (gQ W F L) Vs w) (i : Nat) {v : Value} {R : Fz → Value → Prop} (hv : Vs i = some v) (hL : gQ W F L i = .rel (Made W F R)) : ∃ F', Gr W F w F' ∧ R F' v := by
 have := h i v hv
 rw [hL] at this
 exact this
theorem FactsAt.get {md : Region.Mode} {ops : Array Oper} {W : World} {F : Fz} {L : List (Nat × Mark)} {Vs : eW} {w : World} {j : Nat} (h : FactsAt md ops (gQ W F L) j Vs w) (i : Nat) {v : Value} {R : Fz → Value → Prop} (ha : kN md ops ops.size j i = true) (hv : Vs i = some v) (hL : gQ W F L i = .rel (Made W F R)) : ∃ F', Gr W F w F' ∧ R F' v := by
 have := h i v ha hv
 rw [hL] at this
 exact this
def both (F G : Fz) : Fz := fun b => match F b with | some o => some o | none => G b
theorem lG (F G : Fz) : Le F (both F G) := fun b o h => by simp [both, h]
theorem mM {F G : Fz} {w : World} (hF : Sat w F) (hG : Sat w G) : Le G (both F G) := fun b o h => by
  unfold both
  cases hb : F b with
  | none => exact h
  | some x => have h1 := hF b x hb; have h2 := hG b o h; rw [h1] at h2; simpa using h2
theorem Gr.both {w w' : World} {F F1 F2 : Fz} (h : Gr w F w' F1) (k : Gr w F w' F2) : Gr w F w' (both F1 F2) :=
  ⟨h.below, fun b hb => by unfold Proofs.YtilgpdpooildcaaGreatDoor.both; rw [h.old b hb]; cases hf : F b with | none => exact (k.old b hb).trans hf | some o => rfl, fun b o hb => by
    unfold Proofs.YtilgpdpooildcaaGreatDoor.both at hb
    split at hb
    · rename_i x hx; cases hb; exact h.sat b _ hx
    · exact k.sat b o hb⟩
theorem dG (F : Fz) (w : World) (v : Value) (l : List UInt8) (hs : Sat w F) (hv : Bs F v l) (hm : l.length ≤ 100000) :
    Calls Tryz.prog 45 #[v] w (dF w F fun F' u => Bs F' u l) := by
 obtain ⟨a, c, rfl, hlc, hcm⟩ := hv.shape
 obtain ⟨i, hi, hz0, hz1, hz2⟩ := info_parts qG
 have hr := hv
 unfold Bs at hr
 have hnil := Lib.run_eql_slice_nil (P := Tryz.prog) w 25 5 a l.length c 0 0 Tryz.underlying25
 cases a with
 | none =>
  have hl : l = [] := by
   obtain ⟨a', c', h1, _, _, h4, _⟩ := hr
   cases h1
   exact List.eq_nil_of_length_eq_zero (h4 rfl).1
  subst hl
  simp only [zZj] at hnil
  go_enter Tryz.func45, Tryz.ntmps45
  go_wp2_with fail
  go_ret
  exact ⟨_, F, rfl, Gr.refl hs, Bs.nil F⟩
 | some a =>
  have hown := World.ownsRow_lit (base := w.heap.size) (e := 5) (size := 1) w #[] 0 (zZe _) (Nat.zero_le _) rfl
  have hsa := hs.alloc (.cells #[] 5)
  go_enter Tryz.func45, Tryz.ntmps45
  go_wp2_with (at_builtin; go_loud (refine pR rfl _ _ 25 rfl w.heap.size 5 i (.int .u8 0) 1 1 Tryz.underlying25 hi hz0 hz1 hz2 rfl (by decide) rfl hown rfl hsa hr (by simp) (CK _) (by unfold maxLen; omega) (by omega) (by simp) ?_))
  intro v1 w1 hown1 hg _
  have hb : Below w.heap.size w w1 := ((Below.refl _ _).alloc (zZe _) _).grown hg (by simp) (fun g hg' => (hown.lt g hg').1)
  clear hg hown
  go_wp2_with fail
  go_ret
  obtain ⟨F', h1, h2⟩ := Gr.row hs hb hown1
  exact ⟨_, F', rfl, h1, by simpa [Bs] using h2⟩
theorem eI {P : Program} {k : FuncId} {vs : Array Value} {w : World} {b c : Bool} (h : Calls P k vs w (cT w (.bool b))) (e : b = c) : Calls P k vs w (cT w (.bool c)) := e ▸ h
theorem UT {P : Program} {f : FuncId} {fn : Func} {s : ChangeSpec} {c : OpenClaim}
    (h1 : (c.wf (OpenSpec.ofChange s)) = true)
    (h2 : (laidOutB P) = true)
    (h3 : (mapsRowed P) = true)
    (h4 : (fn.params.all (P.readableRec ·)) = true)
    (h5 : (namedTie P c.named s.vars) = true)
    (h6 : ((c.stops == [])) = true)
    (h7 : ((P.stops == [])) = true)
    (h8 : ((c.knobs == [])) = true)
    (h9 : ((P.stopKnobs == [])) = true)
    (a0 : ((c.inPlace == P.inPlace f)) = true)
    (a1 : ((c.unfollowed == P.unfollowed f)) = true)
    (a2 : ((c.recurses == P.recurses f)) = true)
    (a3 : ((c.named == P.varsNamed f)) = true)
    (a4 : ((c.maps == (fn.params.toList ++ s.plain.varTypes P).any (P.mapsRec ·))) = true)
    (a5 : ((c.ifaces == (fn.params.toList ++ s.plain.varTypes P).any (P.ifacesRec ·))) = true)
    (a6 : ((c.mapsOut == P.mapsAmong fn.resultTypes.toList)) = true)
    (a7 : ((c.loops == (fn.params.toList ++ s.plain.varTypes P).any (P.loopsFrom ·))) = true)
    (a8 : ((c.wideKeys == (fn.params.toList ++ s.plain.varTypes P ++ fn.resultTypes.toList).any (P.wideKeysFrom ·))) = true)
    (a9 : (s.vars.all (P.varReadable ·)) = true)
    (b0 : (fn.resultTypes.all (fun t => P.readableRec t && decide (t < P.types.size))) = true)
    (b1 : ((c.ifacesOut == fn.resultTypes.toList.any (P.ifacesRec ·))) = true)
    (b2 : ((c.loopsOut == fn.resultTypes.toList.any (P.loopsFrom ·))) = true)
    (b3 : ((c.plainKeys == P.plainKeys)) = true)
    (b4 : (c.shortTexts.isNone) = true)
    (b5 : (P.stopsHeard) = true)
    (b6 : (P.mayEnter) = true)
    (b7 : ((c.lifted == P.liftsFinal)) = true)
    (b9 : ((P.make == some c.make)) = true)
    (c0 : ((c.kinds == (if c.domain.isEmpty then [] else fn.params.toList.map fun t => match P.underlying t with | some (.int k) => some k | _ => none))) = true)
    (c1 : ((c.pinned == c.pinnedBy)) = true)
    (c2 : ((c.veiled == (fn.params.toList ++ s.plain.varTypes P ++ fn.resultTypes.toList).any (P.veiledRec ·))) = true)
    (c3 : (c.veiledFits P fn.params.toList (fn.params.toList ++ s.plain.varTypes P ++ fn.resultTypes.toList)) = true)
    : joinedFacts P f fn s c = true := by
 unfold joinedFacts
 simp only [Bool.and_eq_true]
 exact ⟨⟨⟨⟨⟨⟨⟨⟨⟨⟨⟨⟨⟨⟨⟨⟨⟨⟨⟨⟨⟨⟨⟨⟨⟨⟨⟨⟨⟨⟨⟨h1, h2⟩, h3⟩, h4⟩, h5⟩, h6⟩, h7⟩, h8⟩, h9⟩, a0⟩, a1⟩, a2⟩, a3⟩, a4⟩, a5⟩, a6⟩, a7⟩, a8⟩, a9⟩, b0⟩, b1⟩, b2⟩, b3⟩, b4⟩, b5⟩, b6⟩, b7⟩, b9⟩, c0⟩, c1⟩, c2⟩, c3⟩

theorem kW : ∀ (w r : List Char), (w.all fun c => c != Char.ofNat 32) = true → wordsSigns (w ++ Char.ofNat 32 :: r) = w :: wordsSigns r
  | [], _, _ => rfl
  | c :: w, r, h => by
    simp only [List.all_cons, Bool.and_eq_true] at h
    have ih := kW w r h.2
    have hc : c ≠ Char.ofNat 32 := by simpa using h.1
    rw [List.cons_append, wordsSigns, ih]
    intro e
    exact hc (e.trans (by decide))
theorem XP {P : Program} {S D : List Nat} (h : P.initOrder = String.ofList (([104, 97, 114, 110, 101, 115, 115].map Char.ofNat) ++ Char.ofNat 32 :: (S.map Char.ofNat ++ Char.ofNat 32 :: ([99, 117, 116].map Char.ofNat ++ Char.ofNat 32 :: D.map Char.ofNat))))
    (hs : isSumSigns (S.map Char.ofNat) = true) (hn : ((S.map Char.ofNat).all fun c => c != Char.ofNat 32) = true) : ∃ R, behindMainWord (wordsSigns P.initOrder.toList) = [99, 117, 116].map Char.ofNat :: R := by
 rw [h, String.toList_ofList, kW _ _ (by decide), kW _ _ hn, kW _ _ (by decide)]
 refine ⟨wordsSigns (D.map Char.ofNat), ?_⟩
 generalize wordsSigns (D.map Char.ofNat) = R
 show (if _ then _ else _) = _
 rw [hs, zZb (by decide +kernel)]
theorem GN (R : List (List Char)) : stripLifts liftWords ([99, 117, 116].map Char.ofNat :: R) = ([], [99, 117, 116].map Char.ofNat :: R) := by kernel_rfl
theorem LN {P : Program} (hw : ∃ R, behindMainWord (wordsSigns P.initOrder.toList) = [99, 117, 116].map Char.ofNat :: R) (h1 : P.laysLater = false) (h2 : P.bearsReflect = false) (h3 : P.doorFits [] = true) : P.mayEnter = true := by
 obtain ⟨R, hR⟩ := hw
 unfold Program.mayEnter
 rw [hR]
 simp only [GN, h1, h2, h3]
 simp only [List.head?_cons]
 rw [show (some (List.map Char.ofNat [99, 117, 116]) == some "cut".toList) = true from by decide +kernel]
 simp
theorem IS {P : Program} (hw : ∃ R, behindMainWord (wordsSigns P.initOrder.toList) = [99, 117, 116].map Char.ofNat :: R) : P.headLifts = [] := by
 obtain ⟨R, hR⟩ := hw
 unfold Program.headLifts
 rw [hR]
 simp only [GN]
 simp
theorem FN {P : Program} (hw : ∃ R, behindMainWord (wordsSigns P.initOrder.toList) = [99, 117, 116].map Char.ofNat :: R) : P.liftsFinal = false := by
 have hl := IS hw
 obtain ⟨R, hR⟩ := hw
 unfold Program.liftsFinal
 rw [hl]
 simp only [hR, List.head?_cons]
 rw [show (some (List.map Char.ofNat [99, 117, 116]) == some "carried".toList) = false from by decide +kernel]
 simp
theorem Bz {P : Program} (hw : ∃ R, behindMainWord (wordsSigns P.initOrder.toList) = [99, 117, 116].map Char.ofNat :: R) : P.make = some .cut := by
 obtain ⟨R, hR⟩ := hw
 unfold Program.make
 rw [hR]
 dsimp only
 rw [zZa (by decide +kernel), zZb (by rw [show (List.map Char.ofNat [99, 117, 116] == "cut".toList) = true from by decide +kernel]; rfl)]
theorem UU : Tryz.pinned.checked.prog.initOrder = String.ofList (([104, 97, 114, 110, 101, 115, 115].map Char.ofNat) ++ Char.ofNat 32 :: (([99, 55, 51, 51, 102, 49, 53, 99, 53, 53, 100, 52, 102, 57, 50, 102, 56, 57, 56, 99, 98, 99, 57, 98, 52, 56, 100, 101, 98, 97, 102, 57, 55, 54, 97, 52, 102, 50, 102, 102, 52, 50, 55, 56, 50, 100, 99, 52, 97, 49, 53, 52, 101, 50, 55, 98, 102, 54, 100, 99, 52, 55, 56, 99] : List Nat).map Char.ofNat ++ Char.ofNat 32 :: ([99, 117, 116].map Char.ofNat ++ Char.ofNat 32 :: ([97, 116, 32, 99, 97, 110, 111, 112, 121, 47, 99, 97, 110, 111, 112, 121, 116, 111, 112, 46, 84, 111, 112, 82, 111, 117, 110, 100, 115, 32, 99, 97, 110, 111, 112, 121, 47, 99, 97, 110, 111, 112, 121, 116, 111, 112, 46, 84, 111, 112, 73, 100, 108, 101, 32, 99, 97, 110, 111, 112, 121, 47, 99, 97, 110, 111, 112, 121, 116, 111, 112, 46, 84, 111, 112, 84, 119, 105, 99, 101, 32, 99, 97, 110, 111, 112, 121, 47, 99, 97, 110, 111, 112, 121, 116, 111, 112, 46, 84, 111, 112, 65, 110, 101, 119, 32, 99, 97, 110, 111, 112, 121, 47, 99, 97, 110, 111, 112, 121, 116, 111, 112, 46, 84, 111, 112, 82, 111, 111, 116, 115, 32, 99, 97, 110, 111, 112, 121, 47, 99, 97, 110, 111, 112, 121, 116, 111, 112, 46, 84, 111, 112, 66, 97, 110, 107, 32, 99, 97, 110, 111, 112, 121, 47, 99, 97, 110, 111, 112, 121, 116, 111, 112, 46, 84, 111, 112, 67, 108, 97, 115, 104, 32, 99, 97, 110, 111, 112, 121, 47, 99, 97, 110, 111, 112, 121, 116, 111, 112, 46, 84, 111, 112, 66, 108, 105, 110, 100, 32, 99, 97, 110, 111, 112, 121, 47, 99, 97, 110, 111, 112, 121, 116, 111, 112, 46, 84, 111, 112, 65, 112, 97, 114, 116, 32, 99, 97, 110, 111, 112, 121, 47, 99, 97, 110, 111, 112, 121, 116, 111, 112, 46, 84, 111, 112, 67, 111, 117, 110, 116, 101, 114, 32, 99, 97, 110, 111, 112, 121, 47, 99, 97, 110, 111, 112, 121, 116, 111, 112, 46, 84, 111, 112, 71, 111, 110, 101, 32, 99, 97, 110, 111, 112, 121, 47, 99, 97, 110, 111, 112, 121, 116, 111, 112, 46, 84, 111, 112, 81, 117, 101, 117, 101, 32, 99, 97, 110, 111, 112, 121, 47, 99, 97, 110, 111, 112, 121, 116, 111, 112, 46, 84, 111, 112, 87, 97, 105, 116, 115, 32, 99, 97, 110, 111, 112, 121, 47, 99, 97, 110, 111, 112, 121, 116, 111, 112, 46, 84, 111, 112, 80, 104, 97, 110, 116, 111, 109, 32, 99, 97, 110, 111, 112, 121, 47, 99, 97, 110, 111, 112, 121, 116, 111, 112, 46, 84, 111, 112, 79, 119, 110, 32, 99, 97, 110, 111, 112, 121, 47, 99, 97, 110, 111, 112, 121, 116, 111, 112, 46, 84, 111, 112, 76, 111, 115, 116] : List Nat).map Char.ofNat))) := by
 show Tryz.progTables.initOrder = _
 unfold Tryz.progTables
 dsimp only
 kernel_rfl
theorem wE : ∃ R, behindMainWord (wordsSigns Tryz.pinned.checked.prog.initOrder.toList) = [99, 117, 116].map Char.ofNat :: R := XP UU (by decide +kernel) (by decide +kernel)
theorem CT : Tryz.pinned.checked.prog.laysLater = false := by kernel_rfl
theorem xC : Tryz.pinned.checked.prog.bearsReflect = false := by kernel_rfl
theorem FP : Tryz.pinned.checked.prog.doorFits [] = true := by kernel_rfl
theorem FQ : Tryz.pinned.checked.prog.mayEnter = true := LN wE CT xC FP
theorem AU : Tryz.pinned.checked.prog.liftsFinal = false := FN wE
theorem UV : Tryz.pinned.checked.prog.make = some .cut := Bz wE
theorem xD : laidOutB Tryz.pinned.checked.prog = true := by kernel_rfl
theorem CU : mapsRowed Tryz.pinned.checked.prog = true := by kernel_rfl
theorem PS : (Tryz.pinned.checked.prog.stops == []) = true := by kernel_rfl
theorem CV : (Tryz.pinned.checked.prog.stopKnobs == []) = true := by kernel_rfl
theorem AV : Tryz.pinned.checked.prog.stopsHeard = true := by kernel_rfl

abbrev By := List UInt8
theorem mN : ∀ a b c : By, Op.bytesLess a b = true → Op.bytesLess b c = true → Op.bytesLess a c = true
  | _, _, [], _, h => by cases ‹By› <;> cases h
  | [], _, _ :: _, _, _ => by simp [Op.bytesLess]
  | _ :: _, [], _ :: _, h, _ => by cases h
  | x :: a, y :: b, z :: c, h, k => by
    simp only [Op.bytesLess, Bool.or_eq_true, decide_eq_true_eq, Bool.and_eq_true, beq_iff_eq] at *
    rcases h with h | ⟨rfl, h⟩
    · rcases k with k | ⟨rfl, k⟩
      · left
        have h1 := UInt8.lt_iff_toNat_lt.1 h; have h2 := UInt8.lt_iff_toNat_lt.1 k
        exact UInt8.lt_iff_toNat_lt.2 (by omega)
      · exact .inl h
    · rcases k with k | ⟨rfl, k⟩
      · exact .inl k
      · exact .inr ⟨rfl, mN a b c h k⟩
theorem rJ : ∀ a b : By, Op.bytesLess a b = false → Op.bytesLess b a = false → a = b
  | [], [], _, _ => rfl
  | [], _ :: _, h, _ => by simp [Op.bytesLess] at h
  | _ :: _, [], _, h => by simp [Op.bytesLess] at h
  | x :: a, y :: b, h, k => by
    simp only [Op.bytesLess, Bool.or_eq_false_iff, decide_eq_false_iff_not, Bool.and_eq_false_iff, beq_eq_false_iff_ne] at h k
    have hxy : x = y := by
      apply UInt8.toNat_inj.1
      have h1 : ¬ x.toNat < y.toNat := fun q => h.1 (UInt8.lt_iff_toNat_lt.2 q)
      have h2 : ¬ y.toNat < x.toNat := fun q => k.1 (UInt8.lt_iff_toNat_lt.2 q)
      omega
    subst hxy
    rw [rJ a b (h.2.resolve_left (fun q => q rfl)) (k.2.resolve_left (fun q => q rfl))]
theorem BP {a b : By} (h : Op.bytesLess a b = true) : a ≠ b := by rintro rfl; rw [jO] at h; cases h
abbrev Lt (a b : By) : Prop := Op.bytesLess a b = true
def fF (a b : By) : Int := if Op.bytesLess a b then -1 else if a = b then 0 else 1
theorem rK {a b : By} : fF a b < 0 ↔ Lt a b := by
 unfold fF Lt; cases h : Op.bytesLess a b <;> simp; split <;> omega
theorem SI {a b : By} : fF a b = 0 ↔ a = b := by
 unfold fF
 cases h : Op.bytesLess a b with
 | true => simp; exact BP h
 | false => simp only [Bool.false_eq_true, if_false]; split <;> simp_all
theorem Ca {a b : By} : 0 < fF a b ↔ Lt b a := by
 unfold fF Lt
 cases h : Op.bytesLess a b with
 | true => simp; exact oI a b h
 | false =>
  simp only [Bool.false_eq_true, if_false]
  split
  ·rename_i e; subst e; simp [jO]
  ·rename_i e
   cases k : Op.bytesLess b a with
   | true => simp
   | false => exact absurd (rJ a b h k) e
section
variable {β : Type} (f : β → By)
abbrev tD (l : List β) : Prop := l.Pairwise fun p q => Lt (f p) (f q)
def mJ (l : List β) (k : By) : Nat := (l.takeWhile fun p => Op.bytesLess (f p) k).length
def AA (l : List β) (k : By) : Bool := l.any fun p => f p == k
theorem kP (l : List β) (k : By) : mJ f l k ≤ l.length := by
 unfold mJ; exact (List.takeWhile_prefix _).length_le
variable {f}
theorem xE {l : List β} {k : By} {i : Nat} (hi : i < mJ f l k) (h : i < l.length) : Lt (f l[i]) k := by
 unfold mJ at hi
 have e : (l.takeWhile fun p => Op.bytesLess (f p) k)[i] = l[i] := (List.takeWhile_prefix _).getElem hi
 have hp := List.all_eq_true.1 (List.all_takeWhile (p := fun p => Op.bytesLess (f p) k) (l := l)) _ (List.getElem_mem hi)
 rw [e] at hp
 exact hp
theorem lB (p : β) (l : List β) (k : By) : mJ f (p :: l) k = if Op.bytesLess (f p) k then mJ f l k + 1 else 0 := by
 unfold mJ
 rw [List.takeWhile_cons]
 split <;> simp
theorem xF : ∀ {l : List β} {k : By}, tD f l → ∀ {i : Nat} (_ : mJ f l k ≤ i) (h : i < l.length), ¬ Lt (f l[i]) k
  | [], _, _, i, _, h => by simp at h
  | p :: l, k, hr, i, hi, h => by
    rw [lB] at hi
    rw [tD, List.pairwise_cons] at hr
    split at hi
    · rename_i hlt
      cases i with
      | zero => omega
      | succ i => exact xF hr.2 (by omega) (by simpa using h)
    · rename_i hlt
      cases i with
      | zero => simpa using hlt
      | succ i =>
        simp only [List.getElem_cons_succ]
        intro h2
        have := hr.1 (l[i]'(by simpa using h)) (List.getElem_mem _)
        exact hlt (mN _ _ _ this h2)
theorem IT {l : List β} {k : By} {n : Nat} (hn : n ≤ l.length) (h1 : ∀ (i : Nat) (h : i < l.length), i < n → Lt (f l[i]) k) (h2 : ∀ (i : Nat) (h : i < l.length), n ≤ i → ¬ Lt (f l[i]) k) : mJ f l k = n := by
 induction l generalizing n with
 | nil => simp at hn; subst hn; rfl
 | cons p l ih =>
  rw [lB]
  cases n with
  | zero =>
   have := h2 0 (by simp) (by omega)
   rw [zZa (by simpa using this)]
  | succ n =>
   rw [zZb (show Lt (f p) k from h1 0 (by simp) (by omega))]
   rw [ih (n := n) (by simpa using hn) (fun i h hi => by have := h1 (i + 1) (by simpa using h) (by omega); simpa using this) (fun i h hi => by have := h2 (i + 1) (by simpa using h) (by omega); simpa using this)]
theorem qQ {l : List β} {k : By} : AA f l k = true ↔ ∃ p ∈ l, f p = k := by simp [AA]
theorem iP {l : List β} {k : By} (hr : tD f l) : AA f l k = true ↔ ∃ h : mJ f l k < l.length, f (l[mJ f l k]) = k := by
 rw [qQ]
 constructor
 ·rintro ⟨p, hp, hk⟩
  obtain ⟨i, hi, rfl⟩ := List.mem_iff_getElem.1 hp
  have e : mJ f l k = i := IT (Nat.le_of_lt hi) (fun j hj hji => by
   rw [← hk]; exact List.pairwise_iff_getElem.1 hr j i hj hi hji) (fun j hj hij => by
   rw [← hk]
   intro h
   rcases Nat.lt_or_eq_of_le hij with h1 | h1
   ·exact absurd (mN _ _ _ h (List.pairwise_iff_getElem.1 hr i j hi hj h1)) (by rw [jO]; simp)
   ·subst h1; rw [Lt, jO] at h; cases h)
  subst e
  exact ⟨hi, hk⟩
 ·rintro ⟨h, hk⟩
  exact ⟨_, List.getElem_mem h, hk⟩
end
section
variable {α : Type}
abbrev iU (l : List (By × α)) : Prop := tD (·.1) l
abbrev aT (l : List (By × α)) (k : By) : Nat := mJ (·.1) l k
abbrev fO (l : List (By × α)) (k : By) : Bool := AA (·.1) l k
def mH (l : List (By × α)) (k : By) : Option α := (l.find? fun p => p.1 == k).map (·.2)
def fG (l : List (By × α)) (k : By) (v : α) : List (By × α) := if fO l k then l.set (aT l k) (k, v) else l.take (aT l k) ++ (k, v) :: l.drop (aT l k)
def hJ (l : List (By × α)) (k : By) : List (By × α) := if fO l k then l.take (aT l k) ++ l.drop (aT l k + 1) else l
def gY (l : List (By × α)) (a b : By) : List (By × α) := l.filter fun p => !Op.bytesLess p.1 a && !Op.bytesLess b p.1
end
abbrev Pr := By × By
def CW (p : Pr) : Prop := 1 ≤ p.1.length ∧ p.1.length ≤ 16 ∧ p.2.length ≤ 32
structure TreeOk (n : Nat) (l : List Pr) : Prop where
  len : l.length ≤ n
  ok : ∀ p ∈ l, CW p
  rise : iU l
section
variable {α : Type}
def FR (k : By) (v : α) : List (By × α) → List (By × α)
  | [] => [(k, v)]
  | p :: l => if Op.bytesLess p.1 k then p :: FR k v l else if p.1 = k then (k, v) :: l else (k, v) :: p :: l
def FS (k : By) : List (By × α) → List (By × α)
  | [] => []
  | p :: l => if Op.bytesLess p.1 k then p :: FS k l else if p.1 = k then l else p :: l
theorem xG {p : By × α} {l : List (By × α)} {k : By} (h : Lt p.1 k) : fO (p :: l) k = fO l k := by
 have := BP h
 simp [fO, AA, this]
theorem xH {p : By × α} {l : List (By × α)} {k : By} (hr : iU (p :: l)) (h : ¬ Lt p.1 k) (hne : p.1 ≠ k) : fO (p :: l) k = false := by
 cases hh : fO (p :: l) k with
 | false => rfl
 | true =>
  obtain ⟨h1, h2⟩ := (iP hr).1 hh
  have h0 : mJ (·.1) (p :: l) k = 0 := by rw [lB, zZa h]
  simp only [h0, List.getElem_cons_zero] at h2
  exact absurd h2 hne
theorem tE (k : By) (v : α) : ∀ {l : List (By × α)}, iU l → fG l k v = FR k v l
  | [], _ => by simp [fG, fO, AA, FR]
  | p :: l, hr => by
    have hr' := (List.pairwise_cons.1 hr).2
    unfold FR
    split
    · rename_i h
      rw [← tE k v hr']
      have hp : aT (p :: l) k = aT l k + 1 := by rw [aT, lB, zZb h]
      unfold fG
      rw [xG h, hp]
      split <;> simp
    · rename_i h
      have hp : aT (p :: l) k = 0 := by rw [aT, lB, zZa h]
      split
      · rename_i he
        have : fO (p :: l) k = true := qQ.2 ⟨p, by simp, he⟩
        unfold fG
        rw [zZb this, hp]
        simp
      · rename_i he
        unfold fG
        rw [xH hr h he, hp]
        simp
theorem tF (k : By) : ∀ {l : List (By × α)}, iU l → hJ l k = FS k l
  | [], _ => by simp [hJ, fO, AA, FS]
  | p :: l, hr => by
    have hr' := (List.pairwise_cons.1 hr).2
    unfold FS
    split
    · rename_i h
      rw [← tF k hr']
      have hp : aT (p :: l) k = aT l k + 1 := by rw [aT, lB, zZb h]
      unfold hJ
      rw [xG h, hp]
      split <;> simp
    · rename_i h
      have hp : aT (p :: l) k = 0 := by rw [aT, lB, zZa h]
      split
      · rename_i he
        have : fO (p :: l) k = true := qQ.2 ⟨p, by simp, he⟩
        unfold hJ
        rw [zZb this, hp]
        simp
      · rename_i he
        unfold hJ
        rw [xH hr h he]
        simp
theorem tG {k : By} {v : α} {q : By × α} : ∀ {l : List (By × α)}, q ∈ FR k v l → q = (k, v) ∨ q ∈ l
  | [], h => by simp [FR] at h; exact .inl h
  | p :: l, h => by
    unfold FR at h
    split at h
    · rcases List.mem_cons.1 h with rfl | h
      · exact .inr (by simp)
      · rcases tG h with h | h
        · exact .inl h
        · exact .inr (List.mem_cons_of_mem _ h)
    · split at h <;> simp only [zZk] at h ⊢ <;> rcases h with h | h <;> simp_all
theorem tH {k : By} {q : By × α} : ∀ {l : List (By × α)}, q ∈ FS k l → q ∈ l
  | [], h => by simp [FS] at h
  | p :: l, h => by
    unfold FS at h
    split at h
    · rcases List.mem_cons.1 h with rfl | h
      · simp
      · exact List.mem_cons_of_mem _ (tH h)
    · split at h
      · exact List.mem_cons_of_mem _ h
      · exact h
theorem GO {k : By} {v : α} : ∀ {l : List (By × α)}, iU l → iU (FR k v l)
  | [], _ => by simp [FR, iU, tD]
  | p :: l, hr => by
    obtain ⟨h1, h2⟩ := List.pairwise_cons.1 hr
    unfold FR
    split
    · rename_i h
      refine List.pairwise_cons.2 ⟨fun q hq => ?_, GO h2⟩
      rcases tG hq with rfl | hq
      · exact h
      · exact h1 q hq
    · rename_i h
      split
      · rename_i he
        refine List.pairwise_cons.2 ⟨fun q hq => ?_, h2⟩
        have : Lt p.1 q.1 := h1 q hq
        rw [he] at this
        exact this
      · rename_i he
        have hk : Lt k p.1 := by
          cases hx : Op.bytesLess k p.1 with
          | true => exact hx
          | false => exact absurd (rJ _ _ (by simpa using h) hx) he
        refine List.pairwise_cons.2 ⟨fun q hq => ?_, hr⟩
        rcases List.mem_cons.1 hq with rfl | hq
        · exact hk
        · exact mN _ _ _ hk (h1 q hq)
theorem GQ {k : By} : ∀ {l : List (By × α)}, iU l → iU (FS k l)
  | [], _ => by simp [FS, iU, tD]
  | p :: l, hr => by
    obtain ⟨h1, h2⟩ := List.pairwise_cons.1 hr
    unfold FS
    split
    · exact List.pairwise_cons.2 ⟨fun q hq => h1 q (tH hq), GQ h2⟩
    · split
      · exact h2
      · exact hr
theorem UW (p : By × α) (l : List (By × α)) (k : By) : mH (p :: l) k = if p.1 = k then some p.2 else mH l k := by
 unfold mH
 rw [List.find?_cons]
 by_cases h : p.1 = k
 ·simp [h]
 ·simp [h, beq_eq_false_iff_ne.2 h]
theorem GR {l : List (By × α)} (hr : iU l) (k : By) (v : α) : iU (fG l k v) := by rw [tE k v hr]; exact GO hr
theorem GS {l : List (By × α)} (hr : iU l) (k : By) : iU (hJ l k) := by rw [tF k hr]; exact GQ hr
theorem GT {l : List (By × α)} {k : By} : fO l k = (mH l k).isSome := by
 rw [Bool.eq_iff_iff, fO, qQ, mH]
 simp [List.find?_isSome]
theorem jP (l : List (By × α)) (k : By) (v : α) : (fG l k v).length = if fO l k then l.length else l.length + 1 := by
 unfold fG
 have := kP (·.1) l k
 split
 ·simp
 ·simp only [zZf, zZh, zZg, zZn, aT]; omega
theorem LO {l : List (By × α)} (hr : iU l) (k : By) : (hJ l k).length = if fO l k then l.length - 1 else l.length := by
 unfold hJ
 split
 ·rename_i h
  obtain ⟨h1, _⟩ := (iP hr).1 h
  simp only [zZf, zZh, zZn, aT] at *; omega
 ·rfl
theorem XQ {l : List (By × α)} {k : By} {v : α} (h : mH l k = some v) : (k, v) ∈ l := by
 unfold mH at h
 obtain ⟨p, hp, rfl⟩ := Option.map_eq_some_iff.1 h
 have h1 := List.find?_some hp
 have h2 := List.mem_of_find?_eq_some hp
 have : p.1 = k := by simpa using h1
 rw [← this]; exact h2
theorem LP {l : List (By × α)} (hr : iU l) {p : By × α} (h : p ∈ l) : mH l p.1 = some p.2 := by
 induction l with
 | nil => simp at h
 | cons q l ih =>
  obtain ⟨h1, h2⟩ := List.pairwise_cons.1 hr
  rw [UW]
  rcases List.mem_cons.1 h with rfl | h
  ·simp
  ·rw [zZa (BP (h1 p h)), ih h2 h]
end
theorem TreeOk.put {n m : Nat} {l : List Pr} {k v : By} (h : TreeOk n l) (hp : CW (k, v)) (hm : (fG l k v).length ≤ m) : TreeOk m (fG l k v) := by
 refine ⟨hm, fun p hp' => ?_, GR h.rise k v⟩
 rw [tE k v h.rise] at hp'
 rcases tG hp' with rfl | h'
 ·exact hp
 ·exact h.ok p h'
theorem TreeOk.del {n : Nat} {l : List Pr} {k : By} (h : TreeOk n l) : TreeOk n (hJ l k) := by
 refine ⟨?_, fun p hp' => ?_, GS h.rise k⟩
 ·rw [LO h.rise]; have := h.len; split <;> omega
 ·rw [tF k h.rise] at hp'; exact h.ok p (tH hp')
theorem TreeOk.mono {n m : Nat} {l : List Pr} (h : TreeOk n l) (hm : n ≤ m) : TreeOk m l := ⟨zZo h.len hm, h.ok, h.rise⟩
theorem TreeOk.nil (n : Nat) : TreeOk n [] := ⟨Nat.zero_le _, by simp, by simp [iU, tD]⟩
section
variable {α : Type}
theorem IU {l : List (By × α)} (hr : iU l) (a b : By) : gY l a b = (l.take (if fO l b then aT l b + 1 else aT l b)).drop (aT l a) := by
 have key : ∀ (i : Nat) (h : i < l.length), (i < (if fO l b then aT l b + 1 else aT l b)) ↔ Op.bytesLess b l[i].1 = false := by
  intro i h
  by_cases hh : fO l b = true
  ·rw [zZb hh]
   obtain ⟨h1, h2⟩ := (iP hr).1 hh
   constructor
   ·intro hi
    rcases Nat.lt_or_eq_of_le (Nat.le_of_lt_succ hi) with h3 | h3
    ·exact oI _ _ (xE (f := (·.1)) h3 h)
    ·subst h3
     rw [show l[mJ (·.1) l b].1 = b from h2, jO]
   ·intro hb
    apply Nat.lt_succ_of_le
    rcases Nat.lt_or_ge (aT l b) i with h3 | h3
    ·have : Lt l[mJ (·.1) l b].1 l[i].1 := List.pairwise_iff_getElem.1 hr _ _ h1 h h3
     rw [show l[mJ (·.1) l b].1 = b from h2] at this
     rw [Lt, hb] at this; cases this
    ·exact h3
  ·rw [zZa hh]
   constructor
   ·intro hi; exact oI _ _ (xE (f := (·.1)) hi h)
   ·intro hb
    rcases Nat.lt_or_ge i (aT l b) with h3 | h3
    ·exact h3
    ·have h4 := xF hr h3 h
     have := rJ _ _ (by simpa using h4) hb
     exact absurd (qQ.2 ⟨l[i], List.getElem_mem _, this⟩) hh
 have key2 : ∀ (i : Nat) (h : i < l.length), aT l a ≤ i ↔ Op.bytesLess l[i].1 a = false := by
  intro i h
  constructor
  ·intro hi; have := xF hr hi h; simpa using this
  ·intro hb
   rcases Nat.lt_or_ge i (aT l a) with h3 | h3
   ·have := xE (f := (·.1)) h3 h
    rw [Lt, hb] at this; cases this
   ·exact h3
 have hle : (if fO l b then aT l b + 1 else aT l b) ≤ l.length := by
  split
  ·rename_i hh
   obtain ⟨h1, _⟩ := (iP hr).1 hh
   exact h1
  ·exact kP _ _ _
 generalize (if fO l b then aT l b + 1 else aT l b) = n at *
 generalize aT l a = m at *
 clear hr
 unfold gY
 induction l generalizing n m with
 | nil => simp
 | cons p l ih =>
  rw [List.filter_cons]
  have k1 := key 0 (by simp)
  have k2 := key2 0 (by simp)
  simp only [List.getElem_cons_zero] at k1 k2
  have key' : ∀ (n' : Nat), n = n' + 1 → ∀ (i : Nat) (h : i < l.length), i < n' ↔ Op.bytesLess b l[i].1 = false := by
   rintro n' rfl i h
   have := key (i + 1) (by simpa using h)
   simpa using this
  have key2' : ∀ (i : Nat) (h : i < l.length), m - 1 ≤ i ↔ Op.bytesLess l[i].1 a = false := by
   intro i h
   have := key2 (i + 1) (by simpa using h)
   simp only [List.getElem_cons_succ] at this
   rw [← this]; omega
  cases n with
  | zero =>
   have hz : ∀ (i : Nat) (h : i < l.length), i < 0 ↔ Op.bytesLess b l[i].1 = false := by
    intro i h
    have := key (i + 1) (by simpa using h)
    simp only [List.getElem_cons_succ] at this
    rw [← this]; omega
   have := ih 0 hz (by omega) (m - 1) key2'
   simp only [List.take_zero, List.drop_nil] at this ⊢
   have hb : Op.bytesLess b p.1 = true := by
    cases hx : Op.bytesLess b p.1 with
    | true => rfl
    | false => have := k1.2 hx; omega
   simp only [hb, Bool.not_true, Bool.and_false, Bool.false_eq_true, if_false]
   exact this
  | succ n' =>
   have := ih n' (key' n' rfl) (by simpa using hle) (m - 1) key2'
   have hb := k1.1 (by omega)
   cases m with
   | zero =>
    have ha := k2.1 (by omega)
    simp only [Nat.zero_sub, List.drop_zero] at this
    simp [ha, hb, this]
   | succ m' =>
    have ha : Op.bytesLess p.1 a = true := by
     cases hx : Op.bytesLess p.1 a with
     | true => rfl
     | false => have := k2.2 hx; omega
    simp only [Nat.add_sub_cancel] at this
    simp [ha, this]
end
def at0 (S : List (BitVec 64)) (i : Nat) : BitVec 64 := S.getD i 0
def XR (S : List (BitVec 64)) (x : Nat) : BitVec 64 := at0 S x ^^^ at0 S (x + 5) ^^^ at0 S (x + 10) ^^^ at0 S (x + 15) ^^^ at0 S (x + 20)
def pU (x : BitVec 64) (n : Nat) : BitVec 64 := (x <<< n) ||| (x >>> (64 - n))
def rL (n : Nat) (f : Nat → BitVec 64) : List (BitVec 64) := (List.range n).map f
def Gg (S C : List (BitVec 64)) (i : Nat) : BitVec 64 := at0 S i ^^^ (at0 C ((i % 5 + 4) % 5) ^^^ pU (at0 C ((i % 5 + 1) % 5)) 1)
def thL (S C : List (BitVec 64)) (k : Nat) : List (BitVec 64) := rL 25 fun i => if i < k then Gg S C i else at0 S i
def xI : List Nat := [10, 7, 11, 17, 18, 3, 5, 16, 8, 21, 24, 4, 15, 23, 19, 13, 12, 2, 20, 14, 22, 9, 6, 1]
def Gh : List Nat := [1, 3, 6, 10, 15, 21, 28, 36, 45, 55, 2, 14, 27, 41, 56, 8, 25, 43, 62, 18, 39, 61, 20, 44]
def Cb : List Nat := [1, 32898, 9223372036854808714, 9223372039002292224, 32907, 2147483649, 9223372039002292353, 9223372036854808585, 138, 136, 2147516425, 2147483658, 2147516555, 9223372036854775947, 9223372036854808713, 9223372036854808579, 9223372036854808578, 9223372036854775936, 32778, 9223372039002259466, 9223372039002292353, 9223372036854808704, 2147483649, 9223372039002292232]
def mK (i : Nat) : Nat := xI.getD i 0
def nM (i : Nat) : Nat := Gh.getD i 0
def yZ (i : Nat) : BitVec 64 := BitVec.ofNat 64 (Cb.getD i 0)
def rM (S : List (BitVec 64)) : Nat → List (BitVec 64) × BitVec 64
  | 0 => (S, at0 S 1)
  | k + 1 => let p := rM S k; (p.1.set (mK k) (pU p.2 (nM k)), at0 p.1 (mK k))
def LQ (S : List (BitVec 64)) (i : Nat) : BitVec 64 := at0 S i ^^^ (~~~ (at0 S (i / 5 * 5 + (i % 5 + 1) % 5)) &&& at0 S (i / 5 * 5 + (i % 5 + 2) % 5))
def Cc (S : List (BitVec 64)) : List (BitVec 64) := rL 25 (LQ S)
def GU (S : List (BitVec 64)) (r : Nat) : List (BitVec 64) :=
  let a := thL S ((List.range 5).map (XR S)) 25
  let b := (rM a 24).1
  let c := Cc b
  c.set 0 (at0 c 0 ^^^ yZ r)
def nN (S : List (BitVec 64)) (n : Nat) : List (BitVec 64) := (List.range n).foldl GU S
def FT (b : List UInt8) : List UInt8 :=
  let p := b ++ [6]
  let q := p ++ List.replicate ((136 - p.length % 136) % 136) 0
  q.set (q.length - 1) (q.getD (q.length - 1) 0 ||| 128)
def sZ (S : List (BitVec 64)) (p : List UInt8) (n : Nat) : List (BitVec 64) :=
  (List.range n).foldl (fun S i => S.set (i / 8) (at0 S (i / 8) ^^^ (BitVec.ofNat 64 (p.getD i 0).toNat <<< (i % 8 * 8)))) S
def nV (S : List (BitVec 64)) : List UInt8 → Nat → List (BitVec 64)
  | _, 0 => S
  | p, n + 1 => nV (nN (sZ S p 136) 24) (p.drop 136) n
def LR (S : List (BitVec 64)) : List UInt8 := (List.range 32).map fun i => UInt8.ofNat ((at0 S (i / 8) >>> (i % 8 * 8)).toNat % 256)
def nP (b : List UInt8) : List UInt8 := LR (nV (List.replicate 25 0) (FT b) ((FT b).length / 136))
theorem CX (n : Nat) (f : Nat → BitVec 64) : (rL n f).length = n := by simp [rL]
theorem qR (b : List UInt8) : (nP b).length = 32 := by simp [nP, LR]
def lU (p : By) : By := UInt8.ofNat (p.length / 256) :: UInt8.ofNat (p.length % 256) :: p
def zA (k : UInt8) (ps : List By) : By := k :: ps.flatMap lU
def zB (k : UInt8) (ps : List By) : By := nP (zA k ps)
theorem rN (k : UInt8) (ps : List By) : (zB k ps).length = 32 := qR _

abbrev aW := List (By × List Pr)
def CY (n : By) : Prop := 1 ≤ n.length ∧ n.length ≤ 8
structure ForestOk (m : Nat) (f : aW) : Prop where
  len : f.length ≤ 8
  name : ∀ t ∈ f, CY t.1
  some : ∀ t ∈ f, t.2 ≠ []
  tree : ∀ t ∈ f, TreeOk m t.2
  rise : iU f
def bP (f : aW) (n : By) : List Pr := (mH f n).getD []
def mO (f : aW) (n k : By) : Option By := mH (bP f n) k
structure Wr where
  name : By
  key : By
  gone : Bool
  value : By
structure WrOk (w : Wr) : Prop where
  name : CY w.name
  key1 : 1 ≤ w.key.length
  key2 : w.key.length ≤ 16
  value : w.value.length ≤ 32
  gone : w.gone = true → w.value = []
def jK (w : Wr) (old : List Pr) : List Pr := if w.gone then hJ old w.key else fG old w.key w.value
def gF (f : aW) (w : Wr) : Option aW :=
  let oK := jK w (bP f w.name)
  if w.gone = false ∧ 60 < oK.length then none
  else if oK = [] then some (hJ f w.name)
  else if 8 < (fG f w.name oK).length then none
  else some (fG f w.name oK)
def lV (f : aW) : List Wr → Option aW
  | [] => some f
  | w :: ws => match gF f w with
    | some g => lV g ws
    | none => none
theorem oL {m : Nat} {f : aW} (h : ForestOk m f) (n : By) : TreeOk m (bP f n) := by
 unfold bP
 cases hg : mH f n with
 | none => exact TreeOk.nil m
 | some t => exact h.tree _ (XQ hg)
theorem LS {m : Nat} {old : List Pr} (h : TreeOk m old) {w : Wr} (hw : WrOk w) : TreeOk (m + 1) (jK w old) := by
 unfold jK
 split
 ·exact h.del.mono (by omega)
 ·refine h.put ⟨hw.key1, hw.key2, hw.value⟩ ?_
  rw [jP]
  have := h.len
  split <;> omega
theorem AB {f g : aW} {w : Wr} (h : gF f w = some g) :
    (jK w (bP f w.name) = [] ∧ g = hJ f w.name) ∨ (jK w (bP f w.name) ≠ [] ∧ g = fG f w.name (jK w (bP f w.name)) ∧ g.length ≤ 8) := by
 unfold gF at h
 dsimp only at h
 by_cases h1 : w.gone = false ∧ 60 < (jK w (bP f w.name)).length
 ·rw [zZb h1] at h; cases h
 ·rw [zZa h1] at h
  by_cases h2 : jK w (bP f w.name) = []
  ·rw [zZb h2] at h; left; exact ⟨h2, by injection h with h; exact h.symm⟩
  ·rw [zZa h2] at h
   by_cases h3 : 8 < (fG f w.name (jK w (bP f w.name))).length
   ·rw [zZb h3] at h; cases h
   ·rw [zZa h3] at h
    right
    injection h with h
    subst h
    exact ⟨h2, rfl, by omega⟩
theorem tI {m : Nat} {f : aW} (hf : ForestOk m f) {w : Wr} (hw : WrOk w) (hm : m < 60) (h : gF f w = none) : f.length = 8 ∧ fO f w.name = false ∧ w.gone = false := by
 unfold gF at h
 dsimp only at h
 have hl := (LS (oL hf w.name) hw).len
 rw [zZa (by omega)] at h
 by_cases h2 : jK w (bP f w.name) = []
 ·rw [zZb h2] at h; cases h
 ·rw [zZa h2] at h
  by_cases h3 : 8 < (fG f w.name (jK w (bP f w.name))).length
  ·rw [jP] at h3
   have := hf.len
   cases hh : fO f w.name with
   | true => rw [hh] at h3; simp at h3; omega
   | false =>
    rw [hh] at h3
    simp at h3
    refine ⟨by omega, rfl, ?_⟩
    cases hg : w.gone with
    | false => rfl
    | true =>
     exfalso
     apply h2
     have e : mH f w.name = none := by
      rw [GT] at hh
      cases hx : mH f w.name with
      | none => rfl
      | some _ => rw [hx] at hh; cases hh
     unfold jK bP
     rw [hg, e]
     rfl
  ·rw [zZa h3] at h; cases h
theorem UX {m : Nat} {f g : aW} (hf : ForestOk m f) {w : Wr} (hw : WrOk w) (h : gF f w = some g) : ForestOk (m + 1) g := by
 rcases AB h with ⟨h1, rfl⟩ | ⟨h1, rfl, h2⟩
 ·have hmem : ∀ t ∈ hJ f w.name, t ∈ f := fun t ht => by rw [tF _ hf.rise] at ht; exact tH ht
  refine ⟨?_, fun t ht => hf.name t (hmem t ht), fun t ht => hf.some t (hmem t ht), fun t ht => (hf.tree t (hmem t ht)).mono (by omega), GS hf.rise _⟩
  rw [LO hf.rise]
  have := hf.len
  split <;> omega
 ·have hmem : ∀ t ∈ fG f w.name (jK w (bP f w.name)), t = (w.name, jK w (bP f w.name)) ∨ t ∈ f := fun t ht => by rw [tE _ _ hf.rise] at ht; exact tG ht
  refine ⟨h2, fun t ht => ?_, fun t ht => ?_, fun t ht => ?_, GR hf.rise _ _⟩
  ·rcases hmem t ht with rfl | ht
   ·exact hw.name
   ·exact hf.name t ht
  ·rcases hmem t ht with rfl | ht
   ·exact h1
   ·exact hf.some t ht
  ·rcases hmem t ht with rfl | ht
   ·exact LS (oL hf _) hw
   ·exact (hf.tree t ht).mono (by omega)
theorem ForestOk.nil (m : Nat) : ForestOk m [] := ⟨by simp, by simp, by simp, by simp, by simp [iU, tD]⟩

section
variable {α : Type}
def IV (l : List (By × α)) (b : By) : Nat := if fO l b then aT l b + 1 else aT l b
theorem SJ {l : List (By × α)} (hr : iU l) (b : By) : IV l b ≤ l.length := by
 unfold IV
 split
 ·rename_i h
  obtain ⟨h1, _⟩ := (iP hr).1 h
  exact h1
 ·exact kP _ _ _
theorem PT {l : List (By × α)} (hr : iU l) (a b : By) : gY l a b = (l.take (IV l b)).drop (aT l a) := IU hr a b
end

structure Rd where
  name : By
  key : By
  wide : Bool
  last : By
deriving DecidableEq
structure RdOk (r : Rd) : Prop where
  name : CY r.name
  key : 1 ≤ r.key.length ∧ r.key.length ≤ 16
  last : if r.wide then 1 ≤ r.last.length ∧ r.last.length ≤ 16 else r.last = []
structure Tx where
  start : Int
  reads : List Rd
  writes : List Wr
def dK (a b : Wr) : Bool := a.name == b.name && a.key == b.key
theorem wF {a b : Wr} : dK a b = true ↔ a.name = b.name ∧ a.key = b.key := by simp [dK]
structure TxOk (t : Tx) : Prop where
  start : 0 ≤ t.start ∧ t.start ≤ 1048576
  nr : t.reads.length ≤ 20
  nw : t.writes.length ≤ 10
  reads : ∀ r ∈ t.reads, RdOk r
  rdiff : t.reads.Pairwise (· ≠ ·)
  writes : ∀ w ∈ t.writes, WrOk w
  wdiff : t.writes.Pairwise fun a b => dK a b = false
def jL (t : Tx) (r : Rd) : Option Tx := if r ∈ t.reads then some t else if t.reads.length = 20 then none else some { t with reads := t.reads ++ [r] }
def AW (ws : List Wr) (w : Wr) : Option Nat := ws.findIdx? fun x => dK x w
def gR (t : Tx) (w : Wr) : Option Tx := match AW t.writes w with
  | some i => some { t with writes := t.writes.set i w }
  | none => if t.writes.length = 10 then none else some { t with writes := t.writes ++ [w] }
theorem XS {t u : Tx} (h : TxOk t) {r : Rd} (hr : RdOk r) (e : jL t r = some u) : TxOk u := by
 unfold jL at e
 split at e
 ·cases e; exact h
 ·rename_i hn
  split at e
  ·cases e
  ·cases e
   have := h.nr
   refine ⟨h.start, by simp; omega, h.nw, fun x hx => ?_, ?_, h.writes, h.wdiff⟩
   ·rcases List.mem_append.1 hx with hx | hx
    ·exact h.reads x hx
    ·rw [List.mem_singleton.1 hx]; exact hr
   ·refine List.pairwise_append.2 ⟨h.rdiff, by simp, fun a ha b hb => ?_⟩
    rw [List.mem_singleton.1 hb]
    rintro rfl; exact hn ha
theorem UY {ws : List Wr} {w : Wr} {i : Nat} (h : AW ws w = some i) : ∃ hi : i < ws.length, dK ws[i] w = true := by
 unfold AW at h
 obtain ⟨h1, h2, _⟩ := List.findIdx?_eq_some_iff_getElem.1 h
 exact ⟨h1, h2⟩
theorem UZ {ws : List Wr} {w : Wr} (h : AW ws w = none) : ∀ x ∈ ws, dK x w = false := by
 unfold AW at h
 simpa using List.findIdx?_eq_none_iff.1 h
theorem xJ {a b c : Wr} (h : dK a b = true) : dK a c = dK b c := by
 obtain ⟨h1, h2⟩ := wF.1 h
 unfold dK; rw [h1, h2]
theorem AC (a b : Wr) : dK a b = dK b a := by
 rw [Bool.eq_iff_iff, wF, wF]; exact ⟨fun h => ⟨h.1.symm, h.2.symm⟩, fun h => ⟨h.1.symm, h.2.symm⟩⟩
theorem XT {ws : List Wr} {w : Wr} {i : Nat} (hi : i < ws.length) (hs : dK ws[i] w = true) (h : ws.Pairwise fun a b => dK a b = false) : (ws.set i w).Pairwise fun a b => dK a b = false := by
 rw [List.pairwise_iff_getElem] at h ⊢
 intro a b ha hb hab
 simp only [List.length_set] at ha hb
 have h0 := h a b ha hb hab
 rw [List.getElem_set, List.getElem_set]
 split
 ·rename_i e; subst e
  rw [zZa (by omega), ← xJ hs]; exact h0
 ·split
  ·rename_i e; subst e
   rw [AC, ← xJ hs, AC]; exact h0
  ·exact h0
theorem VA {t u : Tx} (h : TxOk t) {w : Wr} (hw : WrOk w) (e : gR t w = some u) : TxOk u := by
 unfold gR at e
 split at e
 ·rename_i i hi
  cases e
  obtain ⟨h1, h2⟩ := UY hi
  refine ⟨h.start, h.nr, by simpa using h.nw, h.reads, h.rdiff, fun x hx => ?_, XT h1 h2 h.wdiff⟩
  rcases List.mem_or_eq_of_mem_set hx with hx | rfl
  ·exact h.writes x hx
  ·exact hw
 ·rename_i hi
  split at e
  ·cases e
  ·cases e
   have := h.nw
   refine ⟨h.start, h.nr, by simp; omega, h.reads, h.rdiff, fun x hx => ?_, ?_⟩
   ·rcases List.mem_append.1 hx with hx | hx
    ·exact h.writes x hx
    ·rw [List.mem_singleton.1 hx]; exact hw
   ·refine List.pairwise_append.2 ⟨h.wdiff, by simp, fun a ha b hb => ?_⟩
    rw [List.mem_singleton.1 hb]
    exact UZ hi a ha
theorem PU {t u : Tx} {w : Wr} (e : gR t w = some u) : u.writes.length ≤ t.writes.length + 1 ∧ u.reads = t.reads ∧ u.start = t.start ∧ t.writes.length ≤ u.writes.length := by
 unfold gR at e
 split at e
 ·cases e; simp
 ·split at e
  ·cases e
  ·cases e; simp
theorem uR {t u : Tx} {r : Rd} (e : jL t r = some u) : u.reads.length ≤ t.reads.length + 1 ∧ u.writes = t.writes ∧ u.start = t.start := by
 unfold jL at e
 split at e
 ·cases e; simp
 ·split at e
  ·cases e
  ·cases e; simp
def Gi (ws : List Wr) (n k : By) : Option Wr := ws.find? fun w => w.name == n && w.key == k
def cY (f : aW) (t : Tx) (n k : By) : Option By × Bool := match Gi t.writes n k with
  | some w => (if w.gone then none else some w.value, true)
  | none => (mO f n k, false)
def inR (n a b : By) (w : Wr) : Bool := w.name == n && !Op.bytesLess w.key a && !Op.bytesLess b w.key
def qS (n a b : By) (l : List Pr) (w : Wr) : Option (List Pr) := if inR n a b w then (if w.gone = false ∧ 60 < (jK w l).length then none else some (jK w l)) else some l
def iQ (n a b : By) (l : List Pr) : List Wr → Option (List Pr)
  | [] => some l
  | w :: ws => match qS n a b l w with
    | some m => iQ n a b m ws
    | none => none
def GV (f : aW) (t : Tx) (n a b : By) : Option (List Pr) := iQ n a b (gY (bP f n) a b) t.writes
theorem LU {α : Type} {l : List (By × α)} (hr : iU l) (a b : By) : iU (gY l a b) := List.Pairwise.filter _ hr
theorem TreeOk.range {n : Nat} {l : List Pr} (h : TreeOk n l) (a b : By) : TreeOk n (gY l a b) :=
  ⟨zZo (List.length_filter_le _ _) h.len, fun p hp => h.ok p (List.mem_filter.1 hp).1, LU h.rise a b⟩
def eT (r : Rd) (w : Wr) : Bool := r.name == w.name && (if r.wide then !Op.bytesLess w.key r.key && !Op.bytesLess r.last w.key else r.key == w.key)

def LV (p : Pr) : By := zB 1 [p.1, p.2]
def CZ (bit : Nat) (a b : By) : By := zB 2 [[UInt8.ofNat bit], a, b]
def aY (l : List Pr) : Nat := match l.head?, l.getLast? with
  | some p, some q => (pT p.1 q.1).toNat
  | _, _ => 0
def bC (bit : Nat) (l : List Pr) : Nat := (l.takeWhile fun p => !dJ p.1 bit).length
theorem DA (bit : Nat) (l : List Pr) : bC bit l ≤ l.length := (List.takeWhile_prefix _).length_le
def DB : Nat → List Pr → By
  | 0, _ => zB 0 []
  | _ + 1, [] => zB 0 []
  | _ + 1, [p] => LV p
  | n + 1, p :: q :: l => CZ (aY (p :: q :: l)) (DB n ((p :: q :: l).take (bC (aY (p :: q :: l)) (p :: q :: l)))) (DB n ((p :: q :: l).drop (bC (aY (p :: q :: l)) (p :: q :: l))))
def eD (l : List Pr) : By := DB l.length l
structure KeysOk (l : List Pr) : Prop where
  key : ∀ p ∈ l, 1 ≤ p.1.length ∧ p.1.length ≤ 16
  rise : iU l
theorem KeysOk.sub {l m : List Pr} (h : KeysOk l) (hs : m.Sublist l) : KeysOk m := ⟨fun p hp => h.key p (hs.subset hp), h.rise.sublist hs⟩
theorem oD {l : List Pr} (h : KeysOk l) (h2 : 2 ≤ l.length) : aY l < 145 ∧ pT (l[0]'(by omega)).1 (l[l.length - 1]'(by omega)).1 = aY l ∧ dJ (l[0]'(by omega)).1 (aY l) = false ∧ dJ (l[l.length - 1]'(by omega)).1 (aY l) = true := by
 have e1 : l.head? = some (l[0]'(by omega)) := by rw [List.head?_eq_getElem?, zZc]
 have e2 : l.getLast? = some (l[l.length - 1]'(by omega)) := by rw [List.getLast?_eq_getElem?, zZc]
 have hlt : Lt (l[0]'(by omega)).1 (l[l.length - 1]'(by omega)).1 := List.pairwise_iff_getElem.1 h.rise 0 (l.length - 1) (by omega) (by omega) (by omega)
 have hb : aY l = (pT (l[0]'(by omega)).1 (l[l.length - 1]'(by omega)).1).toNat := by unfold aY; rw [e1, e2]
 generalize hx : (l[0]'(by omega)).1 = x at *
 generalize hy : (l[l.length - 1]'(by omega)).1 = y at *
 have hxl : x.length ≤ 16 := by rw [← hx]; exact (h.key _ (List.getElem_mem _)).2
 have hyl : y.length ≤ 16 := by rw [← hy]; exact (h.key _ (List.getElem_mem _)).2
 rcases wC x y with ⟨h0, _⟩ | ⟨m, m1, m2, m3, m4⟩
 ·exact absurd (XK hxl hyl h0) (BP hlt)
 ·have hbm : aY l = m := by rw [hb, m2]; rfl
  rw [hbm]
  have e := PR (a := x) (b := y) m2
  rw [hlt] at e
  refine ⟨m1, m2, ?_, e⟩
  rw [e] at m3
  cases hq : dJ x m with
  | false => rfl
  | true => rw [hq] at m3; exact absurd rfl m3
theorem LW {bit : Nat} {l : List Pr} {i : Nat} (hi : i < bC bit l) (h : i < l.length) : dJ l[i].1 bit = false := by
 unfold bC at hi
 have e : (l.takeWhile fun p => !dJ p.1 bit)[i] = l[i] := (List.takeWhile_prefix _).getElem hi
 have hp := List.all_eq_true.1 (List.all_takeWhile (p := fun p : Pr => !dJ p.1 bit) (l := l)) _ (List.getElem_mem hi)
 rw [e] at hp
 simpa using hp
theorem DC {bit : Nat} : ∀ {l : List Pr} (h : bC bit l < l.length), dJ l[bC bit l].1 bit = true
  | [], h => by simp at h
  | p :: l, h => by
    cases hb : dJ p.1 bit with
    | true =>
      have : bC bit (p :: l) = 0 := by simp [bC, hb]
      simp only [this, List.getElem_cons_zero]
      exact hb
    | false =>
      have e : bC bit (p :: l) = bC bit l + 1 := by simp [bC, hb]
      simp only [e, List.getElem_cons_succ]
      exact DC (by rw [e] at h; simpa using h)
theorem oM {l : List Pr} (h : KeysOk l) (h2 : 2 ≤ l.length) : 0 < bC (aY l) l ∧ bC (aY l) l < l.length := by
 obtain ⟨b1, b2, b3, b4⟩ := oD h h2
 constructor
 ·rcases Nat.eq_zero_or_pos (bC (aY l) l) with h0 | h0
  ·have := DC (bit := aY l) (l := l) (by omega)
   simp only [h0] at this
   rw [b3] at this; cases this
  ·exact h0
 ·rcases Nat.lt_or_ge (bC (aY l) l) l.length with h0 | h0
  ·exact h0
  ·have := LW (bit := aY l) (l := l) (i := l.length - 1) (by omega) (by omega)
   rw [b4] at this; cases this
theorem nW {bit : Nat} {l : List Pr} {n : Nat} (hn : n ≤ l.length) (h1 : ∀ (i : Nat) (h : i < l.length), i < n → dJ l[i].1 bit = false) (h2 : ∀ h : n < l.length, dJ l[n].1 bit = true) : bC bit l = n := by
 rcases Nat.lt_trichotomy (bC bit l) n with h | h | h
 ·have := DC (bit := bit) (l := l) (by omega)
  rw [h1 _ _ h] at this; cases this
 ·exact h
 ·have hl := DA bit l
  have := LW (bit := bit) h (by omega)
  rw [h2 (by omega)] at this; cases this
theorem rO : ∀ (n m : Nat) (l : List Pr), KeysOk l → l.length ≤ n → l.length ≤ m → DB n l = DB m l
  | 0, 0, _, _, _, _ => rfl
  | 0, m + 1, [], _, _, _ => rfl
  | n + 1, 0, [], _, _, _ => rfl
  | n + 1, m + 1, [], _, _, _ => rfl
  | 0, _, _ :: _, _, h, _ => by simp at h
  | _, 0, _ :: _, _, _, h => by simp at h
  | n + 1, m + 1, [p], _, _, _ => rfl
  | n + 1, m + 1, p :: q :: l, hk, h1, h2 => by
    have hs := oM hk (by simp)
    unfold DB
    generalize hL : p :: q :: l = L at *
    have e1 : (L.take (bC (aY L) L)).length < L.length := by rw [zZh]; omega
    have e2 : (L.drop (bC (aY L) L)).length < L.length := by rw [zZn]; omega
    rw [rO n m (L.take (bC (aY L) L)) (hk.sub (List.take_sublist _ _)) (by omega) (by omega), rO n m (L.drop (bC (aY L) L)) (hk.sub (List.drop_sublist _ _)) (by omega) (by omega)]
theorem VB (p : Pr) : eD [p] = LV p := rfl
theorem PV {l : List Pr} (h : KeysOk l) (h2 : 2 ≤ l.length) : eD l = CZ (aY l) (eD (l.take (bC (aY l) l))) (eD (l.drop (bC (aY l) l))) := by
 have hs := oM h h2
 have e1 : (l.take (bC (aY l) l)).length < l.length := by rw [zZh]; omega
 have e2 : (l.drop (bC (aY l) l)).length < l.length := by rw [zZn]; omega
 match l, h2 with
 | p :: q :: l, _ =>
  unfold eD
  rw [rO _ (l.length + 1) _ (h.sub (List.take_sublist _ _)) (zZe _) (by simp at e1 ⊢; omega), rO _ (l.length + 1) _ (h.sub (List.drop_sublist _ _)) (zZe _) (by simp at e2 ⊢; omega)]
  rfl
theorem zC (l : List Pr) : (eD l).length = 32 := by
 unfold eD
 have : ∀ n l, (DB n l).length = 32 := by
  intro n l
  match n, l with
  | 0, _ => exact rN _ _
  | _ + 1, [] => exact rN _ _
  | _ + 1, [p] => exact rN _ _
  | _ + 1, _ :: _ :: _ => exact rN _ _
 exact this _ _
theorem TreeOk.keys {n : Nat} {l : List Pr} (h : TreeOk n l) : KeysOk l := ⟨fun p hp => ⟨(h.ok p hp).1, (h.ok p hp).2.1⟩, h.rise⟩

structure Stp where
  bit : Nat
  right : Bool
  other : By
def qT (bit : Nat) (r : Bool) (l : List Pr) : List Pr := if r then l.drop (bC bit l) else l.take (bC bit l)
def lC : Nat → List Pr → By → List Stp × Pr
  | 0, l, _ => ([], l.headD ([], []))
  | n + 1, l, k => if l.length ≤ 1 then ([], l.headD ([], [])) else
    let q := lC n (qT (aY l) (dJ k (aY l)) l) k
    (⟨aY l, dJ k (aY l), eD (qT (aY l) (!dJ k (aY l)) l)⟩ :: q.1, q.2)
def up1 (s : Stp) (d : By) : By := if s.right then CZ s.bit s.other d else CZ s.bit d s.other
structure Prf where
  empty : Bool
  steps : List Stp
  pair : Pr
def aV (l : List Pr) (k : By) : Prf := if l = [] then ⟨true, [], ([], [])⟩ else ⟨false, (lC l.length l k).1, (lC l.length l k).2⟩
end Go.Proofs.YtilgpdpooildcaaGreatDoor
