/- Rules, plain laws and walks: A B M1 R G B2 J P1 D0 P2 P3 P4 P5 P6 P7 P8 P9 -/
import Derived.Test.YtilgpdpooildcaaGreatDoorRows
import Derived.WalkKit
import Derived.WalkSpells
import Derived.WalkLawsBesides
import Derived.Deep.QuietTactic
import Derived.BigQuiet
import Derived.ProofKit
import Derived.OpenShut
import Derived.ShutString
import Derived.ChangeOld
import Derived.Deep.Slices
import Derived.StillTail
import Derived.JoinedOf
namespace Go.Proofs.YtilgpdpooildcaaGreatDoor
set_option maxHeartbeats 8000000
open Go.RowKit

theorem hid {p : Prop} (h : p) : Hid p := h

abbrev Fz := Nat → Option Obj
def Sat (w : World) (F : Fz) : Prop := ∀ b o, F b = some o → w.heap[b]? = some o
def bH (F : Fz) (b off : Nat) : Option Value :=
  match F b with
  | some (.cells c _ _) => c[off]?
  | _ => none
theorem Sat.lt {w : World} {F : Fz} (h : Sat w F) {b : Nat} {o : Obj} (hb : F b = some o) : b < w.heap.size :=
  (Array.getElem?_eq_some_iff.1 (h b o hb)).1
theorem Sat.out {w : World} {F : Fz} (h : Sat w F) {b : Nat} (hb : w.heap.size ≤ b) : F b = none := by
 cases hc : F b with
 | none => rfl
 | some o => have := h.lt hc; omega
theorem Sat.cell {w : World} {F : Fz} (h : Sat w F) {b o : Nat} {v : Value} (hc : bH F b o = some v) : w.cell? ⟨b, o, none⟩ = some v := by
 unfold bH at hc
 split at hc
 ·rename_i c t fr hb
  simp [World.cell?, h b _ hb, hc]
 ·cases hc
theorem Sat.below {w w' : World} {F : Fz} (h : Sat w F) (hb : Below w.heap.size w w') : Sat w' F := fun b o hf => by
  rw [hb.block b (h.lt hf)]; exact h b o hf
theorem Sat.alloc {w : World} {F : Fz} (h : Sat w F) (o : Obj) : Sat (w.alloc o) F := fun b x hf => by
  rw [Below.heap_alloc w o b (h.lt hf)]; exact h b x hf
theorem Sat.drew {w : World} {F : Fz} (h : Sat w F) : Sat w.drew F := h
theorem Sat.setCell {w : World} {F : Fz} (h : Sat w F) {a : Addr} (ha : F a.block = none) (u : Value) : Sat (w.setCell a u) F := fun b x hf => by
  rw [Below.heap_setCell w a u b (fun e => by rw [e, ha] at hf; cases hf)]; exact h b x hf
theorem Sat.grown {w w' : World} {F : Fz} (h : Sat w F) {row : Option Nat} (hg : w.grownBy w' row) (hr : ∀ k, row = some k → F k = none) : Sat w' F := fun b x hf => by
  rw [hg.block b (h.lt hf) (fun e => by rw [hr b e.symm] at hf; cases hf)]; exact h b x hf
def whole (w : World) : Fz := fun b => w.heap[b]?
theorem Sat.whole (w : World) : Sat w (whole w) := fun _ _ h => h
def addF (F : Fz) (w : World) (g : Nat) : Fz := fun b => match F b with | some o => some o | none => if b = g then w.heap[b]? else none
theorem Sat.addF {w : World} {F : Fz} (h : Sat w F) (g : Nat) : Sat w (addF F w g) := fun b o hb => by
  unfold Proofs.YtilgpdpooildcaaGreatDoor.addF at hb
  split at hb
  · rename_i x hx; cases hb; exact h b _ hx
  · split at hb
    · exact hb
    · cases hb
theorem qG (F : Fz) (w : World) (g b : Nat) (o : Obj) (h : F b = some o) : addF F w g b = some o := by simp [addF, h]
theorem pH {F : Fz} {w : World} {g b : Nat} (h : b ≠ g) : addF F w g b = F b := by
 unfold addF
 cases F b <;> simp [h]

structure Gr (w : World) (F : Fz) (w' : World) (F' : Fz) : Prop where
  below : Below w.heap.size w w'
  old : ∀ b, b < w.heap.size → F' b = F b
  sat : Sat w' F'
theorem Gr.le {w w' : World} {F F' : Fz} (h : Gr w F w' F') (hs : Sat w F) : ∀ b o, F b = some o → F' b = some o := fun b o hb => by
  rw [h.old b (hs.lt hb)]; exact hb
theorem Gr.refl {w : World} {F : Fz} (hs : Sat w F) : Gr w F w F := ⟨Below.refl _ _, fun _ _ => rfl, hs⟩
theorem Gr.trans {w w1 w2 : World} {F F1 F2 : Fz} (h : Gr w F w1 F1) (k : Gr w1 F1 w2 F2) : Gr w F w2 F2 :=
  ⟨h.below.trans (k.below.mono h.below.size), fun b hb => (k.old b (Nat.lt_of_lt_of_le hb h.below.size)).trans (h.old b hb), k.sat⟩
theorem Gr.out {w w' : World} {F F' : Fz} (h : Gr w F w' F') {g : Nat} (hg : g < w.heap.size) (hn : F g = none) : F' g = none := by rw [h.old g hg]; exact hn
theorem Gr.of_below {w w' : World} {F : Fz} (hs : Sat w F) (h : Below w.heap.size w w') : Gr w F w' F := ⟨h, fun _ _ => rfl, hs.below h⟩
theorem Gr.add {w w' : World} {F F' : Fz} (h : Gr w F w' F') {g : Nat} (hg : w.heap.size ≤ g) : Gr w F w' (addF F' w' g) :=
  ⟨h.below, fun b hb => (pH (by omega)).trans (h.old b hb), h.sat.addF g⟩
theorem Gr.set {w w1 : World} {F F1 : Fz} (h : Gr w F w1 F1) {a : Addr} (ha : w.heap.size ≤ a.block) (hn : F1 a.block = none) (u : Value) : Gr w F (w1.setCell a u) F1 :=
  ⟨h.below.setCell ha u, h.old, h.sat.setCell hn u⟩
theorem Gr.new {w w1 : World} {F F1 : Fz} (h : Gr w F w1 F1) (o : Obj) : Gr w F (w1.alloc o) F1 :=
  ⟨h.below.alloc h.below.size o, h.old, h.sat.alloc o⟩
theorem Gr.drew {w w1 : World} {F F1 : Fz} (h : Gr w F w1 F1) : Gr w F w1.drew F1 := ⟨h.below.drew, h.old, h.sat⟩
theorem IC (X : World) (o : Obj) {n : Nat} (h : n = X.heap.size) : (X.alloc o).heap[n]? = some o := by subst h; exact heap_alloc_new X o
theorem ID {w : World} {n : Nat} {c : Array Value} {T : TypeId} {fr : Nat × Nat} (h : w.heap[n]? = some (.cells c T fr)) (j : Nat) (u : Value) : (w.setCell ⟨n, j, none⟩ u).heap[n]? = some (.cells (c.setIfInBounds j u) T fr) := by
 simp [World.setCell, Array.getElem?_modify, h]
theorem CT {w : World} {n : Nat} {p : Obj} (h : w.heap[n]? = some p) {a : Addr} (ha : a.block ≠ n) (u : Value) : (w.setCell a u).heap[n]? = some p := by
 rw [Below.heap_setCell w a u n (fun e => ha e.symm)]; exact h
theorem QT {w w' : World} (hb : Below w.heap.size w w') {n : Nat} {p : Obj} (h : w.heap[n]? = some p) : w'.heap[n]? = some p := by
 rw [hb.block n (Array.getElem?_eq_some_iff.1 h).1]; exact h
def Le (F F' : Fz) : Prop := ∀ b o, F b = some o → F' b = some o
theorem Le.refl (F : Fz) : Le F F := fun _ _ h => h
theorem Le.trans {F G H : Fz} (h : Le F G) (k : Le G H) : Le F H := fun b o hb => k b o (h b o hb)
theorem Le.cell {F F' : Fz} (h : Le F F') {b o : Nat} {v : Value} (hc : bH F b o = some v) : bH F' b o = some v := by
 unfold bH at *
 cases hb : F b with
 | none => simp [hb] at hc
 | some x => rw [h b x hb]; rw [hb] at hc; exact hc
theorem Gr.le' {w w' : World} {F F' : Fz} (h : Gr w F w' F') (hs : Sat w F) : Le F F' := h.le hs
theorem Sat.le {w : World} {F F' : Fz} (h : Sat w F') (hl : Le F F') : Sat w F := fun b o hb => h b o (hl b o hb)

def Rw (F : Fz) (v : Value) (n : Nat) (cs : List Value) : Prop :=
  ∃ a c, v = .slice a n c ∧ n ≤ c ∧ c ≤ maxLen ∧ (a = none → n = 0 ∧ c = 0) ∧
    (cs = [] ∨ ∃ b o, a = some ⟨b, o, none⟩ ∧ ∀ j u, cs[j]? = some u → bH F b (o + j) = some u)
theorem Rw.mono {F F' : Fz} {v : Value} {n : Nat} {cs : List Value} (h : Rw F v n cs) (hl : Le F F') : Rw F' v n cs := by
 obtain ⟨a, c, h1, h2, h3, h4, h5⟩ := h
 refine ⟨a, c, h1, h2, h3, h4, h5.imp id fun ⟨b, o, h6, h7⟩ => ⟨b, o, h6, fun j u hu => hl.cell (h7 j u hu)⟩⟩
theorem Rw.nil (F : Fz) : Rw F (.slice none 0 0) 0 [] := ⟨none, 0, rfl, Nat.le_refl _, Nat.zero_le _, fun _ => ⟨rfl, rfl⟩, .inl rfl⟩
theorem Rw.empty (F : Fz) (a : Addr) (c : Nat) (hc : c ≤ maxLen) : Rw F (.slice (some a) 0 c) 0 [] := ⟨some a, c, rfl, Nat.zero_le _, hc, (fun h => nomatch h), .inl rfl⟩
theorem Rw.shape {F : Fz} {v : Value} {n : Nat} {cs : List Value} (h : Rw F v n cs) : ∃ a c, v = .slice a n c ∧ n ≤ c ∧ c ≤ maxLen := by
 obtain ⟨a, c, h1, h2, h3, _⟩ := h
 exact ⟨a, c, h1, h2, h3⟩
theorem Rw.addr {F : Fz} {a : Option Addr} {m n c : Nat} {cs : List Value} (h : Rw F (.slice a m c) n cs) (hn : cs ≠ []) :
    ∃ b o, a = some ⟨b, o, none⟩ ∧ ∀ j u, cs[j]? = some u → bH F b (o + j) = some u := by
 obtain ⟨a', c', h1, _, _, _, h5⟩ := h
 cases h1
 exact h5.resolve_left hn
theorem Rw.of_cells {F : Fz} {b o n c : Nat} {cs : List Value} (h1 : n ≤ c) (h2 : c ≤ maxLen) (h : ∀ j u, cs[j]? = some u → bH F b (o + j) = some u) : Rw F (.slice (some ⟨b, o, none⟩) n c) n cs :=
  ⟨_, c, rfl, h1, h2, (fun h => nomatch h), .inr ⟨b, o, rfl, h⟩⟩
theorem Rw.of_owns {w : World} {F : Fz} {base e size : Nat} {v : Value} {n : Nat} {xs : List Value} (h : w.ownsRow base e size v n xs) (hs : Sat w F) :
    ∃ g, Rw (addF F w g) v n xs ∧ (v = .slice none 0 0 ∨ base ≤ g) := by
 rcases h with ⟨hl, ⟨rfl, rfl⟩ | ⟨g, cap, cur, rfl, hb, hg, h1, h2, h3, h4⟩⟩
 ·have : xs = [] := List.eq_nil_of_length_eq_zero (by simpa using hl)
  subst this
  exact ⟨w.heap.size, Rw.nil _, .inl rfl⟩
 ·refine ⟨g, Rw.of_cells h1 h2 fun j u hu => ?_, .inr hb⟩
  have hb' : addF F w g g = some (.cells cur e (0, 0)) := by
   unfold addF
   cases hf : F g with
   | none => simp [hg]
   | some o => have := hs g o hf; rw [hg] at this; simp at this; simp [← this]
  rw [← h4, List.getElem?_take] at hu
  split at hu
  ·unfold bH; rw [hb', Nat.zero_add]; simpa using hu
  ·cases hu
theorem Rw.takeN {F : Fz} {a : Option Addr} {n c k : Nat} {cs : List Value} (h : Rw F (.slice a n c) n cs) (hk : k ≤ n) (size : Nat) : Rw F (.slice a k c) k (cs.take (k * size)) := by
 obtain ⟨a', c', h1, h2, h3, h4, h5⟩ := h
 cases h1
 refine ⟨a, c, rfl, by omega, h3, fun h => ⟨by have := h4 h; omega, (h4 h).2⟩, ?_⟩
 rcases h5 with rfl | ⟨b, o, h6, h7⟩
 ·exact .inl (by simp)
 ·refine .inr ⟨b, o, h6, fun j u hu => h7 j u ?_⟩
  rw [List.getElem?_take] at hu
  split at hu
  ·exact hu
  ·cases hu
def bv (b : UInt8) : Value := .int .u8 (b.toNat : Int)
def Bs (F : Fz) (v : Value) (l : List UInt8) : Prop := Rw F v l.length (l.map bv)
theorem Bs.mono {F F' : Fz} {v : Value} {l : List UInt8} (h : Bs F v l) (hl : Le F F') : Bs F' v l := Rw.mono h hl
theorem Bs.nil (F : Fz) : Bs F (.slice none 0 0) [] := Rw.nil F
theorem Bs.shape {F : Fz} {v : Value} {l : List UInt8} (h : Bs F v l) : ∃ a c, v = .slice a l.length c ∧ l.length ≤ c ∧ c ≤ maxLen := Rw.shape h
theorem Bs.addr {F : Fz} {a : Option Addr} {m c : Nat} {l : List UInt8} (h : Bs F (.slice a m c) l) (hn : 0 < m) :
    ∃ b o, a = some ⟨b, o, none⟩ ∧ ∀ j (hj : j < l.length), bH F b (o + j) = some (.int .u8 (l[j].toNat : Int)) := by
 have hm : m = l.length := by obtain ⟨a', c', h1, _⟩ := h; cases h1; rfl
 obtain ⟨b, o, h1, h2⟩ := Rw.addr h (by intro e; have := congrArg List.length e; simp at this; rw [hm, this] at hn; simp at hn)
 exact ⟨b, o, h1, fun j hj => h2 j _ (by simp [bv, hj])⟩
theorem Bs.len {F : Fz} {a : Option Addr} {m c : Nat} {l : List UInt8} (h : Bs F (.slice a m c) l) : m = l.length := by
 obtain ⟨a', c', h1, _⟩ := h.shape
 cases h1; rfl
theorem Bs.takeN {F : Fz} {a : Option Addr} {n c k : Nat} {l : List UInt8} (h : Bs F (.slice a n c) l) (hk : k ≤ l.length) : Rw F (.slice a k c) k ((l.take k).map bv) := by
 obtain rfl := h.len
 have := Rw.takeN h hk 1
 rw [Nat.mul_one, ← List.map_take] at this
 exact this
def dO (w : World) (F : Fz) (R : Fz → Value → Prop) (e : Ending) (w' : World) : Prop := ∃ v F', e = .returned v ∧ Gr w F w' F' ∧ R F' v
def cY (w : World) (v : Value) (e : Ending) (w' : World) : Prop := e = .returned v ∧ Below w.heap.size w w'

theorem Gr.row {w w' : World} {F : Fz} {e size : Nat} {v : Value} {n : Nat} {xs : List Value} (hs : Sat w F) (hb : Below w.heap.size w w') (h : w'.ownsRow w.heap.size e size v n xs) :
    ∃ F', Gr w F w' F' ∧ Rw F' v n xs := by
 obtain ⟨g, h1, h2⟩ := Rw.of_owns h (hs.below hb)
 rcases h2 with rfl | h2
 ·obtain ⟨a', c', e1, e2, e3, e4, e5⟩ := h1
  cases e1
  rcases e5 with rfl | ⟨_, _, e6, _⟩
  ·exact ⟨F, Gr.of_below hs hb, Rw.nil F⟩
  ·cases e6
 ·exact ⟨_, (Gr.of_below hs hb).add h2, h1⟩
section
variable {P : Program} {w : World} {F : Fz}
theorem AB (base : Nat) (t ty e : TypeId) (i : TypeInfo) (z : Value) (size bytes : Nat) (ht : P.underlying t = some (.slice e)) (hi : P.info? e = some i) (hz : i.zero = some z)
    (hsize : i.size = size) (hby : i.bytes = bytes) (hzs : z.cells.size = size) (hsz : 0 < size)
    {v : Value} {n : Nat} {xs : List Value} (hown : w.ownsRow base e size v n xs) {u : Value} {m : Nat} {news : List Value} (hs : Sat w F) (hr : Rw F u m news)
    (hl : news.length = m * size) (h1 : ∀ u ∈ news, u.oneCell' = true)
    (a0 : n + m ≤ maxLen) (hbytes : (n + m) * bytes ≤ 140737488355328) (hbase : base ≤ w.heap.size) :
    ∃ v' w', (Builtin.append_ #[t, t] ty #[v, u]).run P w = .ok v' w' ∧ w'.ownsRow base e size v' (n + m) (xs ++ news) ∧ w.grownBy w' v.ownBlock ∧
      (v' = .slice none 0 0 ↔ v = .slice none 0 0 ∧ m = 0) := by
 obtain ⟨a, c, rfl, h2, h3, h4, h5⟩ := hr
 cases a with
 | none =>
  obtain ⟨rfl, rfl⟩ := h4 rfl
  obtain rfl : news = [] := h5.resolve_right (by rintro ⟨_, _, e, _⟩; cases e)
  have hrun := run_append_owned_none (P := P) w base t ty e i size ht hi v n xs hown
  exact ⟨v, w, by simpa using hrun, by simpa using hown, World.grownBy.refl _ _, by simp⟩
 | some a =>
  refine run_append_own (P := P) w base t ty e i z size bytes ht hi hz hsize hby hzs hsz v n xs hown a m c news hl (fun j u hu => ?_) h1 a0 hbytes hbase
  rcases h5 with rfl | ⟨b, o, h6, h7⟩
  ·simp at hu
  ·cases h6
   have : (⟨b, o, none⟩ : Addr).add j = ⟨b, o + j, none⟩ := by unfold Addr.add; split <;> simp_all
   rw [this]; exact hs.cell (h7 j u hu)
theorem oK {ops : Array Oper} {rest : List Oper} {o : Oper} {a : Act} {Q : Exit → Act → World → Prop} (hgd : o.guard = none) (s x : Operand) (t : TypeId)
    (ho : o.op = .call { callee := .builtin .append, args := #[s, x], argTypes := #[t, t] })
    (base : Nat) (e : TypeId) (i : TypeInfo) (z : Value) (size bytes : Nat) (ht : P.underlying t = some (.slice e)) (hi : P.info? e = some i) (hz : i.zero = some z)
    (hsize : i.size = size) (hby : i.bytes = bytes) (hzs : z.cells.size = size) (hsz : 0 < size)
    {v : Value} {n : Nat} {xs : List Value} (hv : a.eval s = v) (hown : w.ownsRow base e size v n xs) {u : Value} {m : Nat} {news : List Value} (hu : a.eval x = u) (hs : Sat w F) (hr : Rw F u m news)
    (hl : news.length = m * size) (h1 : ∀ u ∈ news, u.oneCell' = true)
    (a0 : n + m ≤ maxLen) (hbytes : (n + m) * bytes ≤ 140737488355328) (hbase : base ≤ w.heap.size)
    (h : ∀ v' w', w'.ownsRow base e size v' (n + m) (xs ++ news) → w.grownBy w' v.ownBlock → (v' = .slice none 0 0 ↔ v = .slice none 0 0 ∧ m = 0) → wpList P ops Q rest (a.put o.dst v') w') :
    wpList P ops Q (o :: rest) a w := by
 refine wpList_plain hgd fun K hK => ?_
 obtain ⟨v', w', hrun, h2, h3, h4⟩ := AB (P := P) base t o.type e i z size bytes ht hi hz hsize hby hzs hsz hown hs hr hl h1 a0 hbytes hbase
 unfold Oper.wp execOp
 simp only [ho, resolve, invoke, builtin, Sem.run_bind, Sem.run_pure, Result.andThen_ok, List.map_toArray, List.map_cons, List.map_nil, hv, hu, hrun]
 exact hK _ _ (h v' w' h2 h3 h4)
theorem AC (l : List UInt8) : ∀ u ∈ l.map bv, u.oneCell' = true := by
 intro u hu
 obtain ⟨_, _, rfl⟩ := List.mem_map.1 hu
 rfl
theorem AD {src e dst : TypeId} (hsrc : P.underlying src = some (.slice e)) (he : P.underlying e = some (.int .u8)) (hd : P.underlying dst = some .string)
    {v : Value} {l : List UInt8} (hs : Sat w F) (h : Bs F v l) : (convert src dst v).run P w = .ok (.string ⟨l.toArray⟩) w := by
 obtain ⟨a, c, rfl, h2, h3, h4', h5⟩ := h
 by_cases hl : l = []
 ·subst hl
  cases a with
  | none => exact run_convert_bytes_nil w src e hsrc he _ _ dst hd
  | some a =>
   show (convert src dst (.slice (some a) 0 c)).run P w = _
   rw [run_convert_bytes_string w src dst e _ 0 c hsrc he hd, run_bytesToString w a 0 c [] (run_loadCells_list (P := P) w a [] (by simp))]
   rfl
 ·obtain ⟨b, o, rfl, h4⟩ := h5.resolve_left (by simpa using hl)
  have hh := run_convert_bytes_arg (P := P) w src e hsrc he b o l.length c (l.map fun x => (x.toNat : Int)) (by simp) (fun i hi => by
   rw [hs.cell (h4 i (.int .u8 (l[i].toNat : Int)) (by simp [bv, hi]))]
   simp [List.getD, hi]) dst hd
  rw [hh]
  congr 2
  unfold strOfNums
  simp only [List.map_map]
  have e : ((fun n : Int => UInt8.ofNat n.toNat) ∘ fun x : UInt8 => (x.toNat : Int)) = id := by funext x; simp
  rw [e, List.map_id]
end
set_option maxRecDepth 100000

theorem qH : (Tryz.prog.info? 5).map (fun i => (i.zero, i.size, i.bytes)) = some (some (.int .u8 0), 1, 1) := by kernel_rfl

def cF (n : Nat) : Int := if 1 ≤ n ∧ n ≤ 16 then 0 else 1
theorem jL {n : Nat} (h1 : 1 ≤ n) (h2 : n ≤ 16) : cF n = 0 := by unfold cF; rw [if_pos ⟨h1, h2⟩]
theorem nL {n : Nat} (h : ¬ (1 ≤ n ∧ n ≤ 16)) : cF n = 1 := by unfold cF; rw [if_neg h]
theorem iU (w : World) (a : Option Addr) (n c : Nat) (_hlc : n ≤ c) (_hcm : c ≤ maxLen) :
    Calls Tryz.prog 55 #[.slice a n c] w fun e w' => e = .returned (.int .i64 (cF n)) ∧ w' = w := by
 by_cases h : 1 ≤ n ∧ n ≤ 16
 ·rw [jL h.1 h.2]
  obtain ⟨h1, h2⟩ := h
  go_enter Tryz.func55, Tryz.ntmps55
  go_wp2
  go_ret
  exact ⟨rfl, rfl⟩
 ·rw [nL h]
  by_cases h1 : n < 1
  ·clear h
   go_enter Tryz.func55, Tryz.ntmps55
   go_wp2
   go_ret
   exact ⟨rfl, rfl⟩
  ·have h2 : 16 < n := by omega
   clear h
   go_enter Tryz.func55, Tryz.ntmps55
   go_wp2
   go_ret
   exact ⟨rfl, rfl⟩
theorem kF (F : Fz) (w : World) (v : Value) (l : List UInt8) (hv : Bs F v l) :
    Calls Tryz.prog 55 #[v] w fun e w' => e = .returned (.int .i64 (cF l.length)) ∧ w' = w := by
 obtain ⟨a, c, rfl, hlc, hcm⟩ := hv.shape
 exact iU w a _ c hlc hcm
def QU (l : List UInt8) (i : Nat) : Bool :=
  if i / 9 < l.length then (if i % 9 = 0 then true else (l.getD (i / 9) 0).toNat.testBit (8 - i % 9)) else false
def IE (a b : List UInt8) : Nat → Nat → Int
  | 0, _ => -1
  | n + 1, i => if QU a i = QU b i then IE a b n (i + 1) else i
def Em (a b : List UInt8) : Int := IE a b 145 0
def pick (n m : Int) : Int := (if n < 0 then -(n + 1) else n) % m
theorem OV (n m : Int) (h : 1 ≤ m) : 0 ≤ pick n m ∧ pick n m < m := by
 unfold pick
 exact ⟨Int.emod_nonneg _ (by omega), Int.emod_lt_of_pos _ (by omega)⟩
theorem IF (n m : Int) (w : World) (h1 : -9223372036854775808 ≤ n) (h2 : n ≤ 9223372036854775807) (hm : 1 ≤ m) (hm2 : m ≤ 10000000) :
    Calls Tryz.prog 30 #[.int .i64 n, .int .i64 m] w fun e w' => e = .returned (.int .i64 (pick n m)) ∧ w' = w := by
 by_cases h : n < 0
 ·have hp : Hid (pick n m = -((n + 1).tmod m)) := by unfold Hid pick; rw [if_pos h, ← Int.neg_tmod, Int.tmod_eq_emod_of_nonneg (by omega)]
  go_enter Tryz.func30, Tryz.ntmps30
  go_wp2
  go_ret
  refine ⟨?_, rfl⟩
  rw [hp.out]
  rfl
 ·have hp : Hid (pick n m = n % m) := by unfold Hid pick; rw [if_neg h]
  go_enter Tryz.func30, Tryz.ntmps30
  go_wp2
  go_ret
  exact ⟨by rw [hp.out]; rfl, rfl⟩

theorem jA : ∀ a : List UInt8, Op.bytesLess a a = false
  | [] => rfl
  | x :: a => by simp [Op.bytesLess, jA a]
theorem qI : ∀ a b : List UInt8, Op.bytesLess a b = true → Op.bytesLess b a = false
  | _, [], h => by cases ‹List UInt8› <;> cases h
  | [], _ :: _, _ => rfl
  | x :: a, y :: b, h => by
    simp only [Op.bytesLess, Bool.or_eq_true, decide_eq_true_eq, Bool.and_eq_true, beq_iff_eq] at h
    simp only [Op.bytesLess, Bool.or_eq_false_iff, decide_eq_false_iff_not, Bool.and_eq_false_iff]
    rcases h with h | ⟨rfl, h⟩
    · refine ⟨fun k => ?_, .inl ?_⟩
      · have h1 := UInt8.lt_iff_toNat_lt.1 h; have h2 := UInt8.lt_iff_toNat_lt.1 k; omega
      · rw [beq_eq_false_iff_ne]
        rintro rfl
        have h1 := UInt8.lt_iff_toNat_lt.1 h; omega
    · exact ⟨fun k => by have h2 := UInt8.lt_iff_toNat_lt.1 k; omega, .inr (qI a b h)⟩
open Go.RowKit Go.ChangeShapes Go.WideShapes Go.ChangeAt

def AllR {α : Type} (R : List Value → α → Prop) : List (List Value) → List α → Prop
  | [], [] => True
  | x :: xs, p :: ps => R x p ∧ AllR R xs ps
  | _, _ => False
theorem AllR.len {α : Type} {R : List Value → α → Prop} : ∀ {xs : List (List Value)} {ps : List α}, AllR R xs ps → xs.length = ps.length
  | [], [], _ => rfl
  | _ :: xs, _ :: ps, h => by simp [AllR.len (xs := xs) (ps := ps) h.2]
  | [], _ :: _, h => h.elim
  | _ :: _, [], h => h.elim
theorem AllR.imp {α : Type} {R S : List Value → α → Prop} (hi : ∀ x p, R x p → S x p) : ∀ {xs : List (List Value)} {ps : List α}, AllR R xs ps → AllR S xs ps
  | [], [], _ => trivial
  | _ :: xs, _ :: ps, h => ⟨hi _ _ h.1, AllR.imp hi (xs := xs) (ps := ps) h.2⟩
  | [], _ :: _, h => h.elim
  | _ :: _, [], h => h.elim
theorem AllR.get {α : Type} {R : List Value → α → Prop} : ∀ {xs : List (List Value)} {ps : List α}, AllR R xs ps → ∀ (i : Nat) (h1 : i < xs.length) (h2 : i < ps.length), R xs[i] ps[i]
  | _ :: _, _ :: _, h, 0, _, _ => h.1
  | _ :: xs, _ :: ps, h, i + 1, h1, h2 => AllR.get (xs := xs) (ps := ps) h.2 i (by simpa using h1) (by simpa using h2)
  | [], _, _, _, h1, _ => by simp at h1
theorem AllR.of_get {α : Type} {R : List Value → α → Prop} : ∀ {xs : List (List Value)} {ps : List α}, xs.length = ps.length → (∀ (i : Nat) (h1 : i < xs.length) (h2 : i < ps.length), R xs[i] ps[i]) → AllR R xs ps
  | [], [], _, _ => trivial
  | x :: xs, p :: ps, hl, h => ⟨h 0 (by simp) (by simp), AllR.of_get (by simpa using hl) fun i h1 h2 => h (i + 1) (by simpa using h1) (by simpa using h2)⟩
  | [], _ :: _, hl, _ => by simp at hl
  | _ :: _, [], hl, _ => by simp at hl
theorem AllR.append {α : Type} {R : List Value → α → Prop} : ∀ {xs : List (List Value)} {ps : List α} {ys : List (List Value)} {qs : List α}, AllR R xs ps → AllR R ys qs → AllR R (xs ++ ys) (ps ++ qs)
  | [], [], _, _, _, k => k
  | _ :: xs, _ :: ps, _, _, h, k => ⟨h.1, AllR.append (xs := xs) (ps := ps) h.2 k⟩
  | [], _ :: _, _, _, h, _ => h.elim
  | _ :: _, [], _, _, h, _ => h.elim
theorem AllR.take {α : Type} {R : List Value → α → Prop} : ∀ {xs : List (List Value)} {ps : List α}, AllR R xs ps → ∀ k, AllR R (xs.take k) (ps.take k)
  | [], [], _, k => by simp [AllR]
  | _ :: xs, _ :: ps, h, 0 => by simp [AllR]
  | _ :: xs, _ :: ps, h, k + 1 => ⟨h.1, AllR.take (xs := xs) (ps := ps) h.2 k⟩
  | [], _ :: _, h, _ => h.elim
  | _ :: _, [], h, _ => h.elim
theorem AllR.drop {α : Type} {R : List Value → α → Prop} : ∀ {xs : List (List Value)} {ps : List α}, AllR R xs ps → ∀ k, AllR R (xs.drop k) (ps.drop k)
  | [], [], _, k => by simp [AllR]
  | _ :: xs, _ :: ps, h, 0 => h
  | _ :: xs, _ :: ps, h, k + 1 => AllR.drop (xs := xs) (ps := ps) h.2 k
  | [], _ :: _, h, _ => h.elim
  | _ :: _, [], h, _ => h.elim
theorem lK : ∀ {el : List (List Value)} {k : Nat}, (∀ x ∈ el, x.length = k) → ∀ (i : Nat) (hi : i < el.length) (j : Nat), j < k → el.flatten[i * k + j]? = el[i][j]?
  | [], _, _, _, hi, _, _ => by simp at hi
  | x :: el, k, h, 0, _, j, hj => by
    have hx : x.length = k := h x (by simp)
    simp [List.getElem?_append, hx, hj]
  | x :: el, k, h, i + 1, hi, j, hj => by
    have hx : x.length = k := h x (by simp)
    have ih := lK (el := el) (k := k) (fun y hy => h y (by simp [hy])) i (by simpa using hi) j hj
    simp only [List.flatten_cons, List.getElem_cons_succ]
    rw [List.getElem?_append_right (by rw [hx, Nat.add_mul]; omega), hx, show (i + 1) * k + j - k = i * k + j from by rw [Nat.add_mul]; omega, ih]
theorem eY : ∀ {el : List (List Value)} {k : Nat}, (∀ x ∈ el, x.length = k) → el.flatten.length = el.length * k
  | [], _, _ => by simp
  | x :: el, k, h => by
    have ih := eY (el := el) (k := k) (fun y hy => h y (by simp [hy]))
    simp only [List.flatten_cons, List.length_append, List.length_cons, ih, h x (by simp), Nat.add_mul]
    omega
def Sl {α : Type} (k : Nat) (R : Fz → List Value → α → Prop) (F : Fz) (v : Value) (l : List α) : Prop :=
  ∃ el : List (List Value), Rw F v l.length el.flatten ∧ AllR (R F) el l ∧ ∀ x ∈ el, x.length = k
theorem Sl.mono {α : Type} {k : Nat} {R : Fz → List Value → α → Prop} (hR : ∀ F F' x p, Le F F' → R F x p → R F' x p) {F F' : Fz} {v : Value} {l : List α} (h : Sl k R F v l) (hl : Le F F') : Sl k R F' v l := by
 obtain ⟨el, h1, h2, h3⟩ := h
 exact ⟨el, h1.mono hl, h2.imp fun x p => hR F F' x p hl, h3⟩
theorem Sl.nil {α : Type} (k : Nat) (R : Fz → List Value → α → Prop) (F : Fz) : Sl k R F (.slice none 0 0) [] := ⟨[], Rw.nil F, trivial, by simp⟩
theorem Sl.shape {α : Type} {k : Nat} {R : Fz → List Value → α → Prop} {F : Fz} {v : Value} {l : List α} (h : Sl k R F v l) : ∃ a c, v = .slice a l.length c ∧ l.length ≤ c ∧ c ≤ maxLen := by
 obtain ⟨el, h1, _⟩ := h
 exact h1.shape
theorem Sl.at {α : Type} {k : Nat} {R : Fz → List Value → α → Prop} {F : Fz} {a : Option Addr} {n c : Nat} {l : List α} (h : Sl k R F (.slice a n c) l) (hk : 0 < k) (hn : 0 < n) :
    ∃ b o, a = some ⟨b, o, none⟩ ∧ ∀ (i : Nat) (hi : i < l.length), ∃ x, x.length = k ∧ R F x l[i] ∧ ∀ j (hj : j < x.length), bH F b (o + (i * k + j)) = some x[j] := by
 obtain ⟨el, h1, h2, h3⟩ := h
 have hlen := h2.len
 have hm : n = l.length := by obtain ⟨a', c', e, _⟩ := h1; cases e; rfl
 have hne : el.flatten ≠ [] := by
  intro e
  have := congrArg List.length e
  rw [eY h3, hlen, ← hm] at this
  have := Nat.mul_pos hn hk
  simp at *
  omega
 obtain ⟨b, o, e, hc⟩ := Rw.addr h1 hne
 refine ⟨b, o, e, fun i hi => ⟨el[i]'(by omega), h3 _ (List.getElem_mem _), h2.get i (by omega) hi, fun j hj => ?_⟩⟩
 have hj' : j < k := by rw [h3 _ (List.getElem_mem _)] at hj; exact hj
 exact hc _ _ (by rw [lK h3 i (by omega) j hj']; simp [hj])

theorem FN (a : Addr) (i j : Nat) : (a.add i).add j = a.add (i + j) := by
 unfold Addr.add
 by_cases h1 : i = 0 <;> by_cases h2 : j = 0 <;> simp [h1, h2, Nat.add_assoc]
theorem yB {β : Type} {Q : Nat → β → Prop} : ∀ n, (∀ i, i < n → ∃ b, Q i b) → ∃ l : List β, l.length = n ∧ ∀ (i : Nat) (h : i < l.length), Q i l[i]
  | 0, _ => ⟨[], rfl, fun i h => by simp at h⟩
  | n + 1, h => by
    obtain ⟨l, h1, h2⟩ := yB n (fun i hi => h i (by omega))
    obtain ⟨b, hb⟩ := h n (by omega)
    refine ⟨l ++ [b], by simp [h1], fun i hi => ?_⟩
    by_cases hn : i < l.length
    · rw [List.getElem_append_left hn]; exact h2 i hn
    · have : i = n := by simp at hi; omega
      subst this
      simpa [h1] using hb
section
variable {H : Type} {enc : TypeId × Value → H} {P : Program} {w : World}
theorem DM {a : Addr} {v : Value} (h : w.cell? a = some v) : a.spot = none ∧ bH (whole w) a.block a.off = some v := by
 unfold World.cell? at h
 unfold bH whole
 split at h
 ·rename_i c t fr hb
  split at h
  ·cases h
  ·rename_i hs
   rw [hb]
   exact ⟨by simpa using hs, h⟩
 ·cases h
theorem TL {α : Type} {k : Nat} {R : Fz → List Value → α → Prop} {t e : TypeId} {fuel : Nat} {v : Value} {x : DataW H × List MemPlace} (ht : P.underlying t = some (.slice e)) (hc : P.cellsOf e = k) (hk : 0 < k)
    (h : DataW.trod enc P w 0 (fun _ => true) true fuel t [v] = some x)
    (hR : ∀ n cs y, cs.length = k → DataW.trod enc P w 0 (fun _ => true) true n e cs = some y → ∃ p, R (whole w) cs p) : ∃ l : List α, Sl k R (whole w) v l := by
 rcases Deep.open_slice ht h with ⟨h0, _⟩ | ⟨a, len, cap, m, n, D, Pl, h0, hb, hl, hm, hmm, _, hx⟩
 ·cases h0
  exact ⟨[], Sl.nil _ _ _⟩
 ·cases h0
  rw [hc] at hx
  have hlm : len ≤ m := by rw [hmm]; simp; exact hl
  have each : ∀ i, i < len → ∃ q : List Value × α, q.1.length = k ∧ (∀ j, j < k → w.cell? (a.add (i * k + j)) = q.1[j]?) ∧ R (whole w) q.1 q.2 := by
   intro i hi
   obtain ⟨cs', h1, h2⟩ := hx i (by omega)
   obtain ⟨h3, h4, h5⟩ := World.cells?_some h1
   obtain ⟨p, hp⟩ := hR n cs' _ h4 h2
   refine ⟨(cs', p), h4, fun j hj => ?_, hp⟩
   rw [← h5 j hj, FN]
  obtain ⟨L, hL, hall⟩ := yB len each
  have hk3 : ∀ x ∈ L.map (·.1), x.length = k := by
   intro x hx
   obtain ⟨q, hq, rfl⟩ := List.mem_map.1 hx
   obtain ⟨i, hi, rfl⟩ := List.mem_iff_getElem.1 hq
   exact (hall i hi).1
  refine ⟨L.map (·.2), L.map (·.1), ⟨some a, cap, by simp [hL], by simpa [hL] using hl, hm, (fun h => nomatch h), ?_⟩, AllR.of_get (by simp) (fun i h1 h2 => by simpa using (hall i (by simpa using h1)).2.2), hk3⟩
  by_cases h0 : len = 0
  ·left
   have : L = [] := List.eq_nil_of_length_eq_zero (by omega)
   simp [this]
  ·right
   have c0 := (hall 0 (by omega)).2.1 0 hk
   have hl0 := (hall 0 (by omega)).1
   rw [show 0 * k + 0 = 0 from by omega] at c0
   have c0' : w.cell? a = some ((L[0]'(by omega)).1[0]'(by omega)) := by
    have e : a.add 0 = a := by simp [Addr.add]
    rw [e] at c0
    rw [c0]; simp
   have hspot := (DM c0').1
   obtain ⟨b, o, sp⟩ := a
   simp at hspot
   subst hspot
   refine ⟨b, o, rfl, fun j u hu => ?_⟩
   have hjl : j < (L.map (·.1)).flatten.length := (List.getElem?_eq_some_iff.1 hu).1
   rw [eY hk3, List.length_map] at hjl
   have hi : j / k < L.length := Nat.div_lt_of_lt_mul (by rw [Nat.mul_comm]; exact hjl)
   have hr : j % k < k := Nat.mod_lt _ hk
   have hj : j / k * k + j % k = j := by rw [Nat.mul_comm]; exact Nat.div_add_mod _ _
   have hf := lK hk3 (j / k) (by simpa using hi) (j % k) hr
   rw [hj] at hf
   rw [hf] at hu
   have hc := (hall (j / k) hi).2.1 (j % k) hr
   rw [hj] at hc
   have hc' : w.cell? (Addr.add ⟨b, o, none⟩ j) = some u := by rw [hc]; simpa using hu
   have e : Addr.add ⟨b, o, none⟩ j = ⟨b, o + j, none⟩ := by unfold Addr.add; split <;> simp_all
   rw [e] at hc'
   exact (DM hc').2
end

inductive OpSpec where
  | pure
  | const (v : Value)
  | rel (R : Value → World → Prop)
def Cr (R : Value → World → Prop) : Prop := ∀ v w w', R v w → Below w.heap.size w w' → R v w'
abbrev eP := Nat → Option Value
def upd (Vs : eP) (i : Nat) (v : Value) : eP := fun j => if j = i then some v else Vs j
theorem TM (Vs : eP) {i j : Nat} (h : i ≠ j) (v u : Value) : upd (upd Vs i v) j u = upd (upd Vs j u) i v := by
 funext k
 simp only [upd]
 by_cases h1 : k = i
 ·subst h1
  simp [h]
 ·by_cases h2 : k = j
  ·subst h2
   simp [h1]
  ·simp [h1, h2]
def kT (s : OpSpec) (v : Value) (w : World) : Prop := match s with | .rel R => R v w | _ => True
def nM (s : OpSpec) (Vs : eP) (i : Nat) (v : Value) : eP := match s with | .rel _ => upd Vs i v | _ => Vs
theorem QV (s t : OpSpec) (Vs : eP) {i j : Nat} (h : i ≠ j) (v u : Value) : nM t (nM s Vs i v) j u = nM s (nM t Vs j u) i v := by
 cases s <;> cases t <;> simp [nM]
 exact TM Vs h v u
def mN (md : Region.Mode) (ops : Array Oper) : Nat → Nat → Nat → Bool
  | 0, _, _ => false
  | f + 1, j, i => match ops[j]? with
    | some o => o.after.any fun e => Region.binds md e && (e.on == i || mN md ops f e.on i)
    | none => false
section
variable {P : Program} {ops : Array Oper} {md : Region.Mode} {C : World → Prop} {Sp : Nat → OpSpec}
theorem AE {n : Nat} {listed : Array Bool} (inv : HeadInv md ops n listed) : ∀ (f x i : Nat), listed.getD x false = true → mN md ops f x i = true → listed.getD i false = true
  | 0, _, _, _, h => by simp [mN] at h
  | f + 1, x, i, hx, h => by
    unfold mN at h
    split at h
    · rename_i o ho
      obtain ⟨e, he, hb⟩ := Array.any_eq_true'.1 h
      simp only [Bool.and_eq_true, Bool.or_eq_true, beq_iff_eq] at hb
      have hl := inv.closed x o ho hx e he hb.1
      rcases hb.2 with h1 | h1
      · rw [h1] at hl; exact hl
      · exact AE inv f e.on i hl h1
    · cases h
theorem nG {n : Nat} {listed : Array Bool} (inv : HeadInv md ops n listed) {j : Nat} (hj : j ∈ Region.ready md ops listed) (f i : Nat) (h : mN md ops f j i = true) : listed.getD i false = true := by
 cases f with
 | zero => simp [mN] at h
 | succ f =>
  obtain ⟨_, o, ho, hall⟩ := mem_ready.1 hj
  unfold mN at h
  rw [ho] at h
  obtain ⟨e, he, hb⟩ := Array.any_eq_true'.1 h
  simp only [Bool.and_eq_true, Bool.or_eq_true, beq_iff_eq] at hb
  have hl := hall e he hb.1
  rcases hb.2 with h1 | h1
  ·rw [h1] at hl; exact hl
  ·exact AE inv f e.on i hl h1
def Facts (Sp : Nat → OpSpec) (Vs : eP) (w : World) : Prop := ∀ i v, Vs i = some v → kT (Sp i) v w
def FactsAt (md : Region.Mode) (ops : Array Oper) (Sp : Nat → OpSpec) (j : Nat) (Vs : eP) (w : World) : Prop := ∀ i v, mN md ops ops.size j i = true → Vs i = some v → kT (Sp i) v w
theorem vH {i j : Nat} (h : mN md ops ops.size j i = false) (Vs : eP) (v : Value) (w : World) : FactsAt md ops Sp j (nM (Sp i) Vs i v) w ↔ FactsAt md ops Sp j Vs w := by
 have e : ∀ k, mN md ops ops.size j k = true → nM (Sp i) Vs i v k = Vs k := by
  intro k hk
  cases Sp i with
  | pure => rfl
  | const _ => rfl
  | rel R =>
   show upd Vs i v k = _
   unfold upd
   rw [if_neg (by rintro rfl; rw [h] at hk; cases hk)]
 constructor
 ·intro H k u hk hu; exact H k u hk (by rw [e k hk]; exact hu)
 ·intro H k u hk hu; exact H k u hk (by rw [← e k hk]; exact hu)
def nN (Φ : Value → World → Prop) (e : Ending) (w' : World) : Prop := ∃ v, e = .returned v ∧ Φ v w'
def xF (v : Value) (w : World) (u : Value) (w' : World) : Prop := u = v ∧ Below w.heap.size w w'
def jZ (R : Value → World → Prop) (w : World) (u : Value) (w' : World) : Prop := R u w' ∧ Below w.heap.size w w'
def DN (P : Program) (w : World) (Φ : Value → World → Prop) : Result Next → Prop
  | .ok (.value u) w' => Φ u w'
  | .ok .skip w' => Φ undef w'
  | .ok (.enter f args) w' => w' = w ∧ Calls P f args w (nN Φ)
  | _ => False
def kU (P : Program) (o : Oper) (a : Act) (w : World) (Φ : Value → World → Prop) : Prop := DN P w Φ ((execOp a.eval o).run P w)
def yC (w : World) (v : Value) : Result Next → Prop
  | .ok (.value u) w' => w' = w ∧ u = v
  | .ok .skip w' => w' = w ∧ undef = v
  | _ => False
def PureAt (P : Program) (o : Oper) (a : Act) (w : World) (v : Value) : Prop := yC w v ((execOp a.eval o).run P w)
theorem PureAt.unique {o : Oper} {a : Act} {w : World} {v u : Value} (h : PureAt P o a w v) (k : PureAt P o a w u) : v = u := by
 unfold PureAt at *
 generalize (execOp a.eval o).run P w = r at *
 cases r with
 | ok n w' => cases n <;> simp only [yC] at h k <;> exact h.2.symm.trans k.2
 | halt x w' => simp only [yC] at h
theorem Oper.wp_of_does {o : Oper} {a : Act} {w : World} {Φ : Value → World → Prop} {K : Act → World → Prop} {Q' : Exit → Act → World → Prop} (h : kU P o a w Φ) (hk : ∀ v w', Φ v w' → K (a.put o.dst v) w') : o.wp P a w K Q' := by
 unfold kU at h
 unfold Oper.wp
 generalize (execOp a.eval o).run P w = r at *
 cases r with
 | ok n w' =>
  cases n <;> simp only [DN] at h <;> simp only [Oper.upon]
  case value u => exact hk _ _ h
  case skip => exact hk _ _ h
  case enter f args =>
   obtain ⟨rfl, h⟩ := h
   exact h.mono fun e w'' hh => by obtain ⟨v, he, hw⟩ := hh; subst he; exact hk _ _ hw
 | halt x w' => simp only [DN] at h
theorem Oper.wp_of_pure {o : Oper} {a : Act} {w : World} {v : Value} {K : Act → World → Prop} {Q' : Exit → Act → World → Prop} (h : PureAt P o a w v) (hk : K (a.put o.dst v) w) : o.wp P a w K Q' := by
 unfold PureAt at h
 unfold Oper.wp
 generalize (execOp a.eval o).run P w = r at *
 cases r with
 | ok n w' =>
  cases n <;> simp only [yC] at h <;> simp only [Oper.upon]
  case value u => obtain ⟨rfl, rfl⟩ := h; exact hk
  case skip => obtain ⟨rfl, rfl⟩ := h; exact hk
 | halt x w' => simp only [yC] at h
def Ob (P : Program) (md : Region.Mode) (ops : Array Oper) (C : World → Prop) (Sp : Nat → OpSpec) (i : Nat) (o : Oper) (a : Act) (Vs : eP) (S : Value → Prop) : Prop :=
  match Sp i with
  | .pure => ∃ v, S = (fun u => u = v) ∧ ∀ w, C w → PureAt P o a w v
  | .const v => S = (fun u => u = v) ∧ ∀ w, C w → FactsAt md ops Sp i Vs w → kU P o a w (xF v w)
  | .rel R => S = (fun _ => True) ∧ ∀ w, C w → FactsAt md ops Sp i Vs w → kU P o a w (jZ R w)
theorem Ob.some {i : Nat} {o : Oper} {a : Act} {Vs : eP} {S : Value → Prop} (h : Ob P md ops C Sp i o a Vs S) : ∃ v, S v := by
 unfold Ob at h
 split at h
 ·obtain ⟨v, rfl, _⟩ := h; exact ⟨v, rfl⟩
 ·rename_i v _; obtain ⟨rfl, _⟩ := h; exact ⟨v, rfl⟩
 ·obtain ⟨rfl, _⟩ := h; exact ⟨undef, trivial⟩
theorem Ob.unique (hC : ∃ w, C w) {i : Nat} {o : Oper} {a : Act} {Vs : eP} {S T : Value → Prop} (h : Ob P md ops C Sp i o a Vs S) (k : Ob P md ops C Sp i o a Vs T) : S = T := by
 obtain ⟨w, hw⟩ := hC
 unfold Ob at h k
 split at h
 ·rename_i e
  simp only [e] at k
  obtain ⟨v, rfl, h1⟩ := h
  obtain ⟨u, rfl, k1⟩ := k
  rw [(h1 w hw).unique (k1 w hw)]
 ·rename_i v e
  simp only [e] at k
  rw [h.1, k.1]
 ·rename_i R e
  simp only [e] at k
  rw [h.1, k.1]
theorem Ob.congr {i : Nat} {o : Oper} {a a' : Act} {Vs Vs' : eP} {S : Value → Prop} (he : execOp a'.eval o = execOp a.eval o) (hf : ∀ w, FactsAt md ops Sp i Vs' w ↔ FactsAt md ops Sp i Vs w) (h : Ob P md ops C Sp i o a Vs S) : Ob P md ops C Sp i o a' Vs' S := by
 unfold Ob at *
 split
 ·rename_i e
  simp only [e] at h
  obtain ⟨v, h1, h2⟩ := h
  exact ⟨v, h1, fun w hw => by have := h2 w hw; unfold PureAt at *; rw [he]; exact this⟩
 ·rename_i v e
  simp only [e] at h
  exact ⟨h.1, fun w hw hF => by have := h.2 w hw ((hf w).1 hF); unfold kU at *; rw [he]; exact this⟩
 ·rename_i R e
  simp only [e] at h
  exact ⟨h.1, fun w hw hF => by have := h.2 w hw ((hf w).1 hF); unfold kU at *; rw [he]; exact this⟩
def gOp (P : Program) (md : Region.Mode) (ops : Array Oper) (C : World → Prop) (Sp : Nat → OpSpec) (i : Nat) (K : Act → eP → Prop) (a : Act) (Vs : eP) : Prop :=
  match ops[i]? with
  | none => K a Vs
  | some o => if Region.wanted o (yielded ops a.tmps) = true then ∃ S, Ob P md ops C Sp i o a Vs S ∧ ∀ v, S v → K (a.put o.dst v) (nM (Sp i) Vs i v) else K (a.put o.dst undef) Vs
theorem pI {i : Nat} {K K' : Act → eP → Prop} {a : Act} {Vs : eP} (h : ∀ a Vs, K a Vs → K' a Vs) (hh : gOp P md ops C Sp i K a Vs) : gOp P md ops C Sp i K' a Vs := by
 unfold gOp at *
 split
 ·rename_i e; simp only [e] at hh; exact h _ _ hh
 ·rename_i o e
  simp only [e] at hh
  split
  ·rename_i hw; rw [if_pos hw] at hh; obtain ⟨S, h1, h2⟩ := hh; exact ⟨S, h1, fun v hv => h _ _ (h2 v hv)⟩
  ·rename_i hw; rw [if_neg hw] at hh; exact h _ _ hh
theorem IG {i : Nat} {K : Act → eP → Prop} {a : Act} {Vs : eP} (hh : gOp P md ops C Sp i K a Vs) : ∃ a' Vs', K a' Vs' := by
 unfold gOp at hh
 split at hh
 ·exact ⟨_, _, hh⟩
 ·split at hh
  ·obtain ⟨S, h1, h2⟩ := hh
   obtain ⟨v, hv⟩ := h1.some
   exact ⟨_, _, h2 v hv⟩
  ·exact ⟨_, _, hh⟩
theorem IH (hC : ∃ w, C w) {i j : Nat} {oi oj : Oper} (hi : ops[i]? = some oi) (hj : ops[j]? = some oj) (hij : i ≠ j) (hap : oi.apart ops oj = true)
    (hsi : ∀ cs b, oi.op ≠ .select cs b) (hsj : ∀ cs b, oj.op ≠ .select cs b) (hni : mN md ops ops.size j i = false) (hnj : mN md ops ops.size i j = false)
    {K : Act → eP → Prop} {a : Act} {Vs : eP} (h : gOp P md ops C Sp i (gOp P md ops C Sp j K) a Vs) : gOp P md ops C Sp j (gOp P md ops C Sp i K) a Vs := by
 obtain ⟨h1, h2, h3⟩ := Oper.apart_spec hap
 have wj : ∀ (a : Act) (v : Value), Region.wanted oj (yielded ops (a.put oi.dst v).tmps) = Region.wanted oj (yielded ops a.tmps) := fun a v => wanted_put oj a oi.dst v h1
 have wi : ∀ (a : Act) (v : Value), Region.wanted oi (yielded ops (a.put oj.dst v).tmps) = Region.wanted oi (yielded ops a.tmps) := fun a v => wanted_put oi a oj.dst v h3
 have ej : ∀ (a : Act) (v : Value), execOp (a.put oi.dst v).eval oj = execOp a.eval oj := fun a v => execOp_put oj hsj a oi.dst v h1
 have ei : ∀ (a : Act) (v : Value), execOp (a.put oj.dst v).eval oi = execOp a.eval oi := fun a v => execOp_put oi hsi a oj.dst v h3
 unfold gOp at h ⊢
 simp only [hi, hj] at h ⊢
 by_cases Wi : Region.wanted oi (yielded ops a.tmps) = true
 ·rw [if_pos Wi] at h
  obtain ⟨S, hS, hall⟩ := h
  obtain ⟨v0, hv0⟩ := hS.some
  by_cases Wj : Region.wanted oj (yielded ops a.tmps) = true
  ·rw [if_pos Wj]
   have hall' : ∀ v, S v → ∃ T, Ob P md ops C Sp j oj a Vs T ∧ ∀ u, T u → K ((a.put oi.dst v).put oj.dst u) (nM (Sp j) (nM (Sp i) Vs i v) j u) := by
    intro v hv
    have := hall v hv
    rw [if_pos (by rw [wj]; exact Wj)] at this
    obtain ⟨T, hT, hK⟩ := this
    exact ⟨T, hT.congr (ej a v).symm (fun w => (vH hni Vs v w).symm), hK⟩
   obtain ⟨T, hT, _⟩ := hall' v0 hv0
   refine ⟨T, hT, fun u hu => ?_⟩
   rw [if_pos (by rw [wi]; exact Wi)]
   refine ⟨S, hS.congr (ei a u) (fun w => vH hnj Vs u w), fun v hv => ?_⟩
   obtain ⟨T', hT', hK⟩ := hall' v hv
   have := hK u (by rw [← hT.unique hC hT']; exact hu)
   rwa [Act.put_comm a v u h2, QV (Sp i) (Sp j) Vs hij v u] at this
  ·rw [if_neg Wj, if_pos (by rw [wi]; exact Wi)]
   refine ⟨S, hS.congr (ei a undef) (fun w => Iff.rfl), fun v hv => ?_⟩
   have := hall v hv
   rw [if_neg (by rw [wj]; exact Wj)] at this
   rwa [Act.put_comm a v undef h2] at this
 ·rw [if_neg Wi] at h
  by_cases Wj : Region.wanted oj (yielded ops a.tmps) = true
  ·rw [if_pos (by rw [wj]; exact Wj)] at h
   obtain ⟨T, hT, hK⟩ := h
   rw [if_pos Wj]
   refine ⟨T, hT.congr (ej a undef).symm (fun w => Iff.rfl), fun u hu => ?_⟩
   rw [if_neg (by rw [wi]; exact Wi)]
   have := hK u hu
   rwa [Act.put_comm a undef u h2] at this
  ·rw [if_neg (by rw [wj]; exact Wj)] at h
   rw [if_neg Wj, if_neg (by rw [wi]; exact Wi)]
   rwa [Act.put_comm a undef undef h2] at h
def xG (P : Program) (md : Region.Mode) (ops : Array Oper) (C : World → Prop) (Sp : Nat → OpSpec) (n : Nat) (L : Array Bool → Act → eP → Prop) : Nat → Array Bool → Act → eP → Prop
  | 0, listed, a, Vs => L listed a Vs
  | f + 1, listed, a, Vs => Region.ready md ops listed ≠ [] ∧ ∀ i ∈ Region.ready md ops listed, i < n ∧ gOp P md ops C Sp i (xG P md ops C Sp n L f (listed.setIfInBounds i true)) a Vs
theorem lL (hst : ∀ i v w w', kT (Sp i) v w → Below w.heap.size w w' → kT (Sp i) v w') (hCE : ∀ w w', C w → Below w.heap.size w w' → C w') {n g : Nat} {L : Array Bool → Act → eP → Prop} {Q' : Exit → Act → World → Prop}
    (hL : ∀ listed a Vs w, C w → Facts Sp Vs w → L listed a Vs → wpAny P md ops Q' g listed a w) :
    ∀ (f : Nat) (listed : Array Bool) (a : Act) (Vs : eP) (w : World), C w → Facts Sp Vs w → xG P md ops C Sp n L f listed a Vs → wpAny P md ops Q' (f + g) listed a w
  | 0, listed, a, Vs, w, hc, hF, h => by rw [Nat.zero_add]; exact hL _ _ _ _ hc hF h
  | f + 1, listed, a, Vs, w, hc, hF, h => by
    rw [show f + 1 + g = (f + g) + 1 by omega]
    refine ⟨fun h0 => absurd h0 h.1, fun i hi => ?_⟩
    have hg := (h.2 i hi).2
    unfold gOp at hg
    unfold wpOp
    split
    · rename_i e
      simp only [e] at hg
      exact lL hst hCE hL f _ a Vs w hc hF hg
    · rename_i o e
      simp only [e] at hg
      split
      · rename_i hw
        rw [if_pos hw] at hg
        obtain ⟨S, hS, hall⟩ := hg
        left
        unfold Ob at hS
        split at hS
        · rename_i es
          obtain ⟨v, rfl, hp⟩ := hS
          have hn := hall v rfl
          simp only [es, nM] at hn
          exact Oper.wp_of_pure (hp w hc) (lL hst hCE hL f _ _ Vs w hc hF hn)
        · rename_i v es
          obtain ⟨rfl, hp⟩ := hS
          have hn := hall v rfl
          simp only [es, nM] at hn
          refine Oper.wp_of_does (hp w hc fun i' v' _ hv => hF i' v' hv) fun u w' ⟨hu, hb⟩ => ?_
          subst hu
          exact lL hst hCE hL f _ _ Vs w' (hCE w w' hc hb) (fun i' v' hv => hst i' v' w w' (hF i' v' hv) hb) hn
        · rename_i R es
          obtain ⟨rfl, hp⟩ := hS
          refine Oper.wp_of_does (hp w hc fun i' v' _ hv => hF i' v' hv) fun u w' ⟨hu, hb⟩ => ?_
          have hn := hall u trivial
          refine lL hst hCE hL f _ _ _ w' (hCE w w' hc hb) (fun i' v' hv => ?_) hn
          simp only [es, nM] at hv
          unfold upd at hv
          split at hv
          · rename_i e'
            subst e'
            cases hv
            simp only [es, kT]
            exact hu
          · exact hst i' v' w w' (hF i' v' hv) hb
      · rename_i hw
        rw [if_neg hw] at hg
        exact lL hst hCE hL f _ _ Vs w hc hF hg
theorem FP (hC : ∃ w, C w) {n i : Nat} {oi : Oper} {L : Array Bool → Act → eP → Prop} (hi : ops[i]? = some oi) (hsel : ∀ (j : Nat) (o : Oper) cs b, ops[j]? = some o → o.op ≠ .select cs b)
    (hs : Region.sinkB md ops n = true) (hc : Region.chainB md ops n = true) (hn : n < ops.size) (hin : i < n)
    (hdone : ∀ listed a Vs, L listed a Vs → ∀ j ∈ Region.ready md ops listed, n ≤ j) :
    ∀ (f : Nat) (listed : Array Bool) (a : Act) (Vs : eP), HeadInv md ops n listed →
      (∀ j oj, ops[j]? = some oj → j ≠ i → listed.getD j true = false → (∀ e ∈ oj.after, Region.binds md e = true → e.on ≠ i) → oi.apart ops oj = true) →
      i ∈ Region.ready md ops listed →
      gOp P md ops C Sp i (xG P md ops C Sp n L f (listed.setIfInBounds i true)) a Vs → xG P md ops C Sp n L (f + 1) listed a Vs := by
 intro f
 induction f with
 | zero =>
  intro listed a Vs inv _ hr H
  have hun := (mem_ready.1 hr).1
  refine ⟨fun h => (by rw [h] at hr; cases hr), fun j hj => ?_⟩
  have hjn : j < n := by
   rcases Nat.lt_or_ge j n with h | h
   ·exact h
   ·exact absurd hj (tail_waits hs hc hn inv _ i rfl hin hun j h)
  refine ⟨hjn, ?_⟩
  by_cases hji : j = i
  ·subst hji; exact H
  ·obtain ⟨a', Vs', hL⟩ := IG H
   have := hdone _ _ _ hL j (ready_mono hj hji)
   omega
 | succ f ih =>
  intro listed a Vs inv hfree hr H
  have hun := (mem_ready.1 hr).1
  refine ⟨fun h => (by rw [h] at hr; cases hr), fun j hj => ?_⟩
  have hjn : j < n := by
   rcases Nat.lt_or_ge j n with h | h
   ·exact h
   ·exact absurd hj (tail_waits hs hc hn inv _ i rfl hin hun j h)
  refine ⟨hjn, ?_⟩
  by_cases hji : j = i
  ·subst hji; exact H
  ·obtain ⟨hjun, oj, hoj, hall⟩ := mem_ready.1 hj
   have hnot : ∀ e ∈ oj.after, Region.binds md e = true → e.on ≠ i := fun e he hb heq => by
    have h1 := hall e he hb
    rw [heq, getD_both hun] at h1
    cases h1
   have a1 : mN md ops ops.size j i = false := by
    cases hx : mN md ops ops.size j i with
    | false => rfl
    | true => have := nG inv hj _ _ hx; rw [getD_both hun] at this; cases this
   have a2 : mN md ops ops.size i j = false := by
    cases hx : mN md ops ops.size i j with
    | false => rfl
    | true => have := nG inv hr _ _ hx; rw [getD_both hjun] at this; cases this
   have H1 : gOp P md ops C Sp i (gOp P md ops C Sp j (xG P md ops C Sp n L f ((listed.setIfInBounds i true).setIfInBounds j true))) a Vs :=
    pI (fun a' Vs' h => (h.2 j (ready_mono hj hji)).2) H
   have H2 := IH hC hi hoj (Ne.symm hji) (hfree j oj hoj hji hjun hnot) (fun cs b => hsel i oi cs b hi) (fun cs b => hsel j oj cs b hoj) a1 a2 H1
   have hfree' : ∀ k ok, ops[k]? = some ok → k ≠ i → (listed.setIfInBounds j true).getD k true = false →
     (∀ e ∈ ok.after, Region.binds md e = true → e.on ≠ i) → oi.apart ops ok = true := fun k ok hk hki hun' hno => by
    refine hfree k ok hk hki ?_ hno
    by_cases hjk : j = k
    ·subst hjk; exact hjun
    ·rw [getD_set_ne true hjk] at hun'; exact hun'
   refine pI (fun a' Vs' h3 => ih (listed.setIfInBounds j true) a' Vs' (inv.set hj hjn) hfree' (ready_mono hr (Ne.symm hji)) ?_) H2
   rw [Array.setIfInBounds_comm _ _ hji]
   exact h3
def wpG (P : Program) (md : Region.Mode) (ops : Array Oper) (C : World → Prop) (Sp : Nat → OpSpec) (Lq : Act → eP → Prop) : List Oper → Nat → Act → eP → Prop
  | [], _, a, Vs => Lq a Vs
  | o :: l, k, a, Vs => if Region.wanted o (yielded ops a.tmps) = true then ∃ S, Ob P md ops C Sp k o a Vs S ∧ ∀ v, S v → wpG P md ops C Sp Lq l (k + 1) (a.put o.dst v) (nM (Sp k) Vs k v) else wpG P md ops C Sp Lq l (k + 1) (a.put o.dst undef) Vs
theorem AF (hC : ∃ w, C w) {n g : Nat} {Lq : Act → eP → Prop} (hsel : Region.noSelect ops = true) (hs : Region.sinkB md ops n = true) (hc : Region.chainB md ops n = true) (hn : n < ops.size) :
    ∀ (l : List Oper) (k : Nat) (listed : Array Bool) (a : Act) (Vs : eP), (∀ j, j < l.length → l[j]? = ops[k + j]?) → k + l.length = n → HeadInv md ops n listed →
    Region.lexHead md ops g l.length k listed = true → wpG P md ops C Sp Lq l k a Vs →
    xG P md ops C Sp n (fun listed' a' Vs' => Region.seqB md ops g n listed' = true ∧ Lq a' Vs') l.length listed a Vs
  | [], k, listed, a, Vs, _, hk, _, hB, h => by
    have : k = n := by simpa using hk
    subst this
    exact ⟨by simpa [Region.lexHead] using hB, h⟩
  | o :: l, k, listed, a, Vs, hl, hk, inv, hB, h => by
    have h0 : ops[k]? = some o := by simpa using (hl 0 (by simp)).symm
    simp only [List.length_cons, Region.lexHead, Bool.and_eq_true] at hB
    obtain ⟨⟨hr, hf⟩, hB'⟩ := hB
    have hkn : k < n := by simp only [List.length_cons] at hk; omega
    have hr' : k ∈ Region.ready md ops listed := by simpa using hr
    have hg : gOp P md ops C Sp k (wpG P md ops C Sp Lq l (k + 1)) a Vs := by unfold gOp; simp only [h0]; exact h
    exact FP hC h0 (Region.noSelect_spec hsel) hs hc hn hkn (fun listed' a' Vs' hL => seqB_ready hL.1) l.length listed a Vs inv (Region.free_spec h0 hf) hr'
      (pI (fun a' Vs' h' => AF hC hsel hs hc hn l (k + 1) _ a' Vs' (fun j hj => by have := hl (j + 1) (by simp; omega); simpa [Nat.add_assoc, Nat.add_comm 1 j] using this) (by simp only [List.length_cons] at hk; omega) (inv.set hr' hkn) hB' h') hg)
end
theorem AG {P : Program} {id : Nat} {Q : Exit → Act → World → Prop} {a : Act} {w : World} {l : List Oper} (n : Nat) (Sp : Nat → OpSpec) (hm : P.follows .mixedOrders = true) (hB : Region.lexTailB .any l.toArray n = true)
    (hst : ∀ i v w w', kT (Sp i) v w → Below w.heap.size w w' → kT (Sp i) v w')
    (h : wpG P .any l.toArray (fun w' => Below w.heap.size w w') Sp (fun a' Vs => ∀ w', Below w.heap.size w w' → Facts Sp Vs w' → wpList P l.toArray Q (l.drop n) a' w') (l.take n) 0 a (fun _ => none)) : (Code.region id l.toArray true).wp P Q a w := by
 simp only [Region.lexTailB, Bool.and_eq_true, decide_eq_true_eq] at hB
 obtain ⟨⟨⟨⟨hsel, hn⟩, hs⟩, hc⟩, hlex⟩ := hB
 have hn' : n < l.length := by simpa using hn
 have htl : (l.take n).length = n := by simp; omega
 have hdl : (l.drop n).length = l.toArray.size - n := by simp
 have inv0 : HeadInv .any l.toArray n (Array.replicate l.toArray.size false) :=
  ⟨by simp, fun j oj _ hl => (by rw [getD_replicate_false] at hl; cases hl), fun t _ ht => getD_in (by simpa using ht) (getD_replicate_false _ _)⟩
 have H := AF (md := .any) (g := l.toArray.size - n) ⟨w, Below.refl _ _⟩ hsel hs hc hn (l.take n) 0 _ a _ (fun j hj => by
  have hj' : j < n := by rw [htl] at hj; exact hj
  simp [hj']) (by simpa using htl) inv0 (by rw [htl]; exact hlex) h
 refine wp_region_any hm ?_
 have := lL (Q' := Q) (g := l.toArray.size - n) hst (fun w1 w2 h1 h2 => h1.trans (h2.mono h1.size)) (fun listed a' Vs w' hC hF hL => by
  have := wpAny_of_seq (md := .any) (Q' := Q) (l.drop n) n listed a' w' (fun j => by simp [List.getElem?_drop]) (by rw [hdl]; exact hL.1) (hL.2 w' hC hF)
  rwa [hdl] at this) _ _ _ _ ({ w with drawn := w.drawn + 1 } : World) (Below.refl w.heap.size w).drew (fun i v h => by cases h) H
 rw [htl, show n + (l.toArray.size - n) = l.toArray.size by omega] at this
 exact this
section
variable {P : Program} {ops : Array Oper} {md : Region.Mode} {C : World → Prop} {Sp : Nat → OpSpec} {Lq : Act → eP → Prop} {o : Oper} {l : List Oper} {k : Nat} {a : Act} {Vs : eP}
@[go_sem] theorem Cd (w w' : World) (Φ : Value → World → Prop) (u : Value) : DN P w Φ (.ok (.value u) w') = Φ u w' := rfl
@[go_sem] theorem Ce (w w' : World) (Φ : Value → World → Prop) (f : FuncId) (args : Array Value) : DN P w Φ (.ok (.enter f args) w') = (w' = w ∧ Calls P f args w (nN Φ)) := rfl
@[go_sem] theorem Cf (w w' : World) (v u : Value) : yC w v (.ok (.value u) w') = (w' = w ∧ u = v) := rfl
theorem YJ (h : Lq a Vs) : wpG P md ops C Sp Lq [] k a Vs := h
theorem TN (hw : Region.wanted o (yielded ops a.tmps) = true) (hs : Sp k = .pure) (v : Value) (h : ∀ w, C w → PureAt P o a w v) (hn : wpG P md ops C Sp Lq l (k + 1) (a.put o.dst v) Vs) : wpG P md ops C Sp Lq (o :: l) k a Vs := by
 unfold wpG
 rw [if_pos hw]
 refine ⟨fun u => u = v, by unfold Ob; rw [hs]; exact ⟨v, rfl, h⟩, fun u hu => ?_⟩
 subst hu
 rw [hs]
 exact hn
theorem QW (hw : Region.wanted o (yielded ops a.tmps) = true) {v : Value} (hs : Sp k = .const v) (h : ∀ w, C w → FactsAt md ops Sp k Vs w → kU P o a w (xF v w)) (hn : wpG P md ops C Sp Lq l (k + 1) (a.put o.dst v) Vs) : wpG P md ops C Sp Lq (o :: l) k a Vs := by
 unfold wpG
 rw [if_pos hw]
 refine ⟨fun u => u = v, by unfold Ob; rw [hs]; exact ⟨rfl, h⟩, fun u hu => ?_⟩
 subst hu
 rw [hs]
 exact hn
theorem YK (hw : Region.wanted o (yielded ops a.tmps) = true) {R : Value → World → Prop} (hs : Sp k = .rel R) (h : ∀ w, C w → FactsAt md ops Sp k Vs w → kU P o a w (jZ R w)) (hn : ∀ v, wpG P md ops C Sp Lq l (k + 1) (a.put o.dst v) (upd Vs k v)) : wpG P md ops C Sp Lq (o :: l) k a Vs := by
 unfold wpG
 rw [if_pos hw]
 refine ⟨fun _ => True, by unfold Ob; rw [hs]; exact ⟨rfl, h⟩, fun u _ => ?_⟩
 rw [hs]
 exact hn u
theorem TO (hw : Region.wanted o (yielded ops a.tmps) = false) (hn : wpG P md ops C Sp Lq l (k + 1) (a.put o.dst undef) Vs) : wpG P md ops C Sp Lq (o :: l) k a Vs := by
 unfold wpG
 rw [if_neg (by rw [hw]; exact Bool.false_ne_true)]
 exact hn
end
def Made (w0 : World) (F : Fz) (R : Fz → Value → Prop) (v : Value) (w : World) : Prop := ∃ F', Gr w0 F w F' ∧ R F' v
theorem Made.stable {w0 : World} {F : Fz} {R : Fz → Value → Prop} {v : Value} {w w' : World} (h : Made w0 F R v w) (hb : Below w.heap.size w w') : Made w0 F R v w' := by
 obtain ⟨F', g, r⟩ := h
 exact ⟨F', g.trans (Gr.of_below g.sat hb), r⟩
theorem dI {P : Program} {f : FuncId} {args : Array Value} {w0 w : World} {F : Fz} {R : Fz → Value → Prop} (hs : Sat w0 F) (hC : Below w0.heap.size w0 w) (h : Calls P f args w (dO w F R)) : Calls P f args w (nN (jZ (Made w0 F R) w)) :=
  h.mono fun e w' hh => by
    obtain ⟨v, F', he, g, r⟩ := hh
    exact ⟨v, he, ⟨F', (Gr.of_below hs hC).trans g, r⟩, g.below⟩
theorem lM {P : Program} {f : FuncId} {args : Array Value} {w : World} {v : Value} (h : Calls P f args w (cY w v)) : Calls P f args w (nN (xF v w)) :=
  h.mono fun _ _ hh => ⟨v, hh.1, rfl, hh.2⟩
inductive Mark where
  | is (v : Value)
  | made (R : Fz → Value → Prop)
  | rel (R : Value → World → Prop) (st : ∀ v w w', R v w → Below w.heap.size w w' → R v w')
def fU (W : World) (F : Fz) (L : List (Nat × Mark)) (i : Nat) : OpSpec :=
  match L.lookup i with
  | some (.is v) => .const v
  | some (.made R) => .rel (Made W F R)
  | some (.rel R _) => .rel R
  | none => .pure
theorem uC {W : World} {F : Fz} {L : List (Nat × Mark)} : ∀ i v w w', kT (fU W F L i) v w → Below w.heap.size w w' → kT (fU W F L i) v w' := by
 intro i v w w' h hb
 unfold fU at *
 split
 ·trivial
 ·rename_i R e
  simp only [e] at h
  exact Made.stable h hb
 ·rename_i R st e
  simp only [e] at h
  exact st _ _ _ h hb
 ·trivial
theorem AH {P : Program} {id : Nat} {Q : Exit → Act → World → Prop} {a : Act} {W : World} {l : List Oper} (F : Fz) (n : Nat) (L : List (Nat × Mark)) (hm : P.follows .mixedOrders = true) (hB : Region.lexTailB .any l.toArray n = true)
    (h : wpG P .any l.toArray (fun w' => Below W.heap.size W w') (fU W F L) (fun a' Vs => ∀ w', Below W.heap.size W w' → Facts (fU W F L) Vs w' → wpList P l.toArray Q (l.drop n) a' w') (l.take n) 0 a (fun _ => none)) : (Code.region id l.toArray true).wp P Q a W :=
  AG n (fU W F L) hm hB uC h
theorem Facts.get {W : World} {F : Fz} {L : List (Nat × Mark)} {Vs : eP} {w : World} (h : Facts (fU W F L) Vs w) (i : Nat) {v : Value} {R : Fz → Value → Prop} (hv : Vs i = some v) (hL : fU W F L i = .rel (Made W F R)) : ∃ F', Gr W F w F' ∧ R F' v := by
 have := h i v hv
 rw [hL] at this
 exact this
theorem FactsAt.get {md : Region.Mode} {ops : Array Oper} {W : World} {F : Fz} {L : List (Nat × Mark)} {Vs : eP} {w : World} {j : Nat} (h : FactsAt md ops (fU W F L) j Vs w) (i : Nat) {v : Value} {R : Fz → Value → Prop} (ha : mN md ops ops.size j i = true) (hv : Vs i = some v) (hL : fU W F L i = .rel (Made W F R)) : ∃ F', Gr W F w F' ∧ R F' v := by
 have := h i v ha hv
 rw [hL] at this
 exact this
def both (F G : Fz) : Fz := fun b => match F b with | some o => some o | none => G b
theorem kM (F G : Fz) : Le F (both F G) := fun b o h => by simp [both, h]
theorem lN {F G : Fz} {w : World} (hF : Sat w F) (hG : Sat w G) : Le G (both F G) := fun b o h => by
  unfold both
  cases hb : F b with
  | none => exact h
  | some x => have h1 := hF b x hb; have h2 := hG b o h; rw [h1] at h2; simpa using h2
theorem Gr.both {w w' : World} {F F1 F2 : Fz} (h : Gr w F w' F1) (k : Gr w F w' F2) : Gr w F w' (both F1 F2) :=
  ⟨h.below, fun b hb => by unfold Proofs.YtilgpdpooildcaaGreatDoor.both; rw [h.old b hb]; cases hf : F b with | none => exact (k.old b hb).trans hf | some o => rfl, fun b o hb => by
    unfold Proofs.YtilgpdpooildcaaGreatDoor.both at hb
    split at hb
    · rename_i x hx; cases hb; exact h.sat b _ hx
    · exact k.sat b o hb⟩
theorem dC (F : Fz) (w : World) (v : Value) (l : List UInt8) (hs : Sat w F) (hv : Bs F v l) (hm : l.length ≤ 100000) :
    Calls Tryz.prog 45 #[v] w (dO w F fun F' u => Bs F' u l) := by
 obtain ⟨a, c, rfl, hlc, hcm⟩ := hv.shape
 obtain ⟨i, hi, hz0, hz1, hz2⟩ := info_parts qH
 have hr := hv
 unfold Bs at hr
 have hnil := Lib.run_eql_slice_nil (P := Tryz.prog) w 25 5 a l.length c 0 0 Tryz.underlying25
 cases a with
 | none =>
  have hl : l = [] := by
   obtain ⟨a', c', h1, _, _, h4, _⟩ := hr
   cases h1
   exact List.eq_nil_of_length_eq_zero (h4 rfl).1
  subst hl
  simp only [List.length_nil] at hnil
  go_enter Tryz.func45, Tryz.ntmps45
  go_wp2_with fail
  go_ret
  exact ⟨_, F, rfl, Gr.refl hs, Bs.nil F⟩
 | some a =>
  have hown := World.ownsRow_lit (base := w.heap.size) (e := 5) (size := 1) w #[] 0 (Nat.le_refl _) (Nat.zero_le _) rfl
  have hsa := hs.alloc (.cells #[] 5)
  go_enter Tryz.func45, Tryz.ntmps45
  go_wp2_with (at_builtin; go_loud (refine oK rfl _ _ 25 rfl w.heap.size 5 i (.int .u8 0) 1 1 Tryz.underlying25 hi hz0 hz1 hz2 rfl (by decide) rfl hown rfl hsa hr (by simp) (AC _) (by unfold maxLen; omega) (by omega) (by simp) ?_))
  intro v1 w1 hown1 hg _
  have hb : Below w.heap.size w w1 := ((Below.refl _ _).alloc (Nat.le_refl _) _).grown hg (by simp) (fun g hg' => (hown.lt g hg').1)
  clear hg hown
  go_wp2_with fail
  go_ret
  obtain ⟨F', h1, h2⟩ := Gr.row hs hb hown1
  exact ⟨_, F', rfl, h1, by simpa [Bs] using h2⟩
def PrV (F : Fz) (v : Value) (k x : List UInt8) : Prop := ∃ a b, v = .agg #[a, b] ∧ Bs F a k ∧ Bs F b x
theorem PrV.mono {F F' : Fz} {v : Value} {k x : List UInt8} (h : PrV F v k x) (hl : Le F F') : PrV F' v k x := by
 obtain ⟨a, b, h1, h2, h3⟩ := h
 exact ⟨a, b, h1, h2.mono hl, h3.mono hl⟩
theorem fC {P : Program} {k : FuncId} {vs : Array Value} {w : World} {b c : Bool} (h : Calls P k vs w (cY w (.bool b))) (e : b = c) : Calls P k vs w (cY w (.bool c)) := e ▸ h
theorem QX {P : Program} {f : FuncId} {fn : Func} {s : ChangeSpec} {c : OpenClaim}
    (h1 : (c.wf (OpenSpec.ofChange s)) = true)
    (h2 : (laidOutB P) = true)
    (h3 : (mapsRowed P) = true)
    (h4 : (fn.params.all (P.readableRec ·)) = true)
    (h5 : (namedTie P c.named s.vars) = true)
    (h6 : ((c.stops == [])) = true)
    (h7 : ((P.stops == [])) = true)
    (h8 : ((c.knobs == [])) = true)
    (h9 : ((P.stopKnobs == [])) = true)
    (a0 : ((c.inPlace == P.inPlace f)) = true)
    (a1 : ((c.unfollowed == P.unfollowed f)) = true)
    (a2 : ((c.recurses == P.recurses f)) = true)
    (a3 : ((c.named == P.varsNamed f)) = true)
    (a4 : ((c.maps == (fn.params.toList ++ s.plain.varTypes P).any (P.mapsRec ·))) = true)
    (a5 : ((c.ifaces == (fn.params.toList ++ s.plain.varTypes P).any (P.ifacesRec ·))) = true)
    (a6 : ((c.mapsOut == P.mapsAmong fn.resultTypes.toList)) = true)
    (a7 : ((c.loops == (fn.params.toList ++ s.plain.varTypes P).any (P.loopsFrom ·))) = true)
    (a8 : ((c.wideKeys == (fn.params.toList ++ s.plain.varTypes P ++ fn.resultTypes.toList).any (P.wideKeysFrom ·))) = true)
    (a9 : (s.vars.all (P.varReadable ·)) = true)
    (b0 : (fn.resultTypes.all (fun t => P.readableRec t && decide (t < P.types.size))) = true)
    (b1 : ((c.ifacesOut == fn.resultTypes.toList.any (P.ifacesRec ·))) = true)
    (b2 : ((c.loopsOut == fn.resultTypes.toList.any (P.loopsFrom ·))) = true)
    (b3 : ((c.plainKeys == P.plainKeys)) = true)
    (b4 : (c.shortTexts.isNone) = true)
    (b5 : (P.stopsHeard) = true)
    (b6 : (P.mayEnter) = true)
    (b7 : ((c.lifted == P.liftsFinal)) = true)
    (b9 : ((P.make == some c.make)) = true)
    (c0 : ((c.kinds == (if c.domain.isEmpty then [] else fn.params.toList.map fun t => match P.underlying t with | some (.int k) => some k | _ => none))) = true)
    (c1 : ((c.pinned == c.pinnedBy)) = true)
    (c2 : ((c.veiled == (fn.params.toList ++ s.plain.varTypes P ++ fn.resultTypes.toList).any (P.veiledRec ·))) = true)
    (c3 : (c.veiledFits P fn.params.toList (fn.params.toList ++ s.plain.varTypes P ++ fn.resultTypes.toList)) = true)
    : joinedFacts P f fn s c = true := by
 unfold joinedFacts
 simp only [Bool.and_eq_true]
 exact ⟨⟨⟨⟨⟨⟨⟨⟨⟨⟨⟨⟨⟨⟨⟨⟨⟨⟨⟨⟨⟨⟨⟨⟨⟨⟨⟨⟨⟨⟨⟨h1, h2⟩, h3⟩, h4⟩, h5⟩, h6⟩, h7⟩, h8⟩, h9⟩, a0⟩, a1⟩, a2⟩, a3⟩, a4⟩, a5⟩, a6⟩, a7⟩, a8⟩, a9⟩, b0⟩, b1⟩, b2⟩, b3⟩, b4⟩, b5⟩, b6⟩, b7⟩, b9⟩, c0⟩, c1⟩, c2⟩, c3⟩

theorem kA : ∀ (w r : List Char), (w.all fun c => c != Char.ofNat 32) = true → wordsSigns (w ++ Char.ofNat 32 :: r) = w :: wordsSigns r
  | [], _, _ => rfl
  | c :: w, r, h => by
    simp only [List.all_cons, Bool.and_eq_true] at h
    have ih := kA w r h.2
    have hc : c ≠ Char.ofNat 32 := by simpa using h.1
    rw [List.cons_append, wordsSigns, ih]
    intro e
    exact hc (e.trans (by decide))
theorem TP {P : Program} {S D : List Nat} (h : P.initOrder = String.ofList (([104, 97, 114, 110, 101, 115, 115].map Char.ofNat) ++ Char.ofNat 32 :: (S.map Char.ofNat ++ Char.ofNat 32 :: ([99, 117, 116].map Char.ofNat ++ Char.ofNat 32 :: D.map Char.ofNat))))
    (hs : isSumSigns (S.map Char.ofNat) = true) (hn : ((S.map Char.ofNat).all fun c => c != Char.ofNat 32) = true) : ∃ R, behindMainWord (wordsSigns P.initOrder.toList) = [99, 117, 116].map Char.ofNat :: R := by
 rw [h, String.toList_ofList, kA _ _ (by decide), kA _ _ hn, kA _ _ (by decide)]
 refine ⟨wordsSigns (D.map Char.ofNat), ?_⟩
 generalize wordsSigns (D.map Char.ofNat) = R
 show (if _ then _ else _) = _
 rw [hs, if_pos (by decide +kernel)]
theorem DO (R : List (List Char)) : stripLifts liftWords ([99, 117, 116].map Char.ofNat :: R) = ([], [99, 117, 116].map Char.ofNat :: R) := by kernel_rfl
theorem II {P : Program} (hw : ∃ R, behindMainWord (wordsSigns P.initOrder.toList) = [99, 117, 116].map Char.ofNat :: R) (h1 : P.laysLater = false) (h2 : P.bearsReflect = false) (h3 : P.doorFits [] = true) : P.mayEnter = true := by
 obtain ⟨R, hR⟩ := hw
 unfold Program.mayEnter
 rw [hR]
 simp only [DO, h1, h2, h3]
 simp only [List.head?_cons]
 rw [show (some (List.map Char.ofNat [99, 117, 116]) == some "cut".toList) = true from by decide +kernel]
 simp
theorem FQ {P : Program} (hw : ∃ R, behindMainWord (wordsSigns P.initOrder.toList) = [99, 117, 116].map Char.ofNat :: R) : P.headLifts = [] := by
 obtain ⟨R, hR⟩ := hw
 unfold Program.headLifts
 rw [hR]
 simp only [DO]
 simp
theorem CU {P : Program} (hw : ∃ R, behindMainWord (wordsSigns P.initOrder.toList) = [99, 117, 116].map Char.ofNat :: R) : P.liftsFinal = false := by
 have hl := FQ hw
 obtain ⟨R, hR⟩ := hw
 unfold Program.liftsFinal
 rw [hl]
 simp only [hR, List.head?_cons]
 rw [show (some (List.map Char.ofNat [99, 117, 116]) == some "carried".toList) = false from by decide +kernel]
 simp
theorem YL {P : Program} (hw : ∃ R, behindMainWord (wordsSigns P.initOrder.toList) = [99, 117, 116].map Char.ofNat :: R) : P.make = some .cut := by
 obtain ⟨R, hR⟩ := hw
 unfold Program.make
 rw [hR]
 dsimp only
 rw [if_neg (by decide +kernel), if_pos (by rw [show (List.map Char.ofNat [99, 117, 116] == "cut".toList) = true from by decide +kernel]; rfl)]
theorem QY : Tryz.pinned.checked.prog.initOrder = String.ofList (([104, 97, 114, 110, 101, 115, 115].map Char.ofNat) ++ Char.ofNat 32 :: (([99, 55, 51, 51, 102, 49, 53, 99, 53, 53, 100, 52, 102, 57, 50, 102, 56, 57, 56, 99, 98, 99, 57, 98, 52, 56, 100, 101, 98, 97, 102, 57, 55, 54, 97, 52, 102, 50, 102, 102, 52, 50, 55, 56, 50, 100, 99, 52, 97, 49, 53, 52, 101, 50, 55, 98, 102, 54, 100, 99, 52, 55, 56, 99] : List Nat).map Char.ofNat ++ Char.ofNat 32 :: ([99, 117, 116].map Char.ofNat ++ Char.ofNat 32 :: ([97, 116, 32, 99, 97, 110, 111, 112, 121, 47, 99, 97, 110, 111, 112, 121, 116, 111, 112, 46, 84, 111, 112, 82, 111, 117, 110, 100, 115, 32, 99, 97, 110, 111, 112, 121, 47, 99, 97, 110, 111, 112, 121, 116, 111, 112, 46, 84, 111, 112, 73, 100, 108, 101, 32, 99, 97, 110, 111, 112, 121, 47, 99, 97, 110, 111, 112, 121, 116, 111, 112, 46, 84, 111, 112, 84, 119, 105, 99, 101, 32, 99, 97, 110, 111, 112, 121, 47, 99, 97, 110, 111, 112, 121, 116, 111, 112, 46, 84, 111, 112, 65, 110, 101, 119, 32, 99, 97, 110, 111, 112, 121, 47, 99, 97, 110, 111, 112, 121, 116, 111, 112, 46, 84, 111, 112, 82, 111, 111, 116, 115, 32, 99, 97, 110, 111, 112, 121, 47, 99, 97, 110, 111, 112, 121, 116, 111, 112, 46, 84, 111, 112, 66, 97, 110, 107, 32, 99, 97, 110, 111, 112, 121, 47, 99, 97, 110, 111, 112, 121, 116, 111, 112, 46, 84, 111, 112, 67, 108, 97, 115, 104, 32, 99, 97, 110, 111, 112, 121, 47, 99, 97, 110, 111, 112, 121, 116, 111, 112, 46, 84, 111, 112, 66, 108, 105, 110, 100, 32, 99, 97, 110, 111, 112, 121, 47, 99, 97, 110, 111, 112, 121, 116, 111, 112, 46, 84, 111, 112, 65, 112, 97, 114, 116, 32, 99, 97, 110, 111, 112, 121, 47, 99, 97, 110, 111, 112, 121, 116, 111, 112, 46, 84, 111, 112, 67, 111, 117, 110, 116, 101, 114, 32, 99, 97, 110, 111, 112, 121, 47, 99, 97, 110, 111, 112, 121, 116, 111, 112, 46, 84, 111, 112, 71, 111, 110, 101, 32, 99, 97, 110, 111, 112, 121, 47, 99, 97, 110, 111, 112, 121, 116, 111, 112, 46, 84, 111, 112, 81, 117, 101, 117, 101, 32, 99, 97, 110, 111, 112, 121, 47, 99, 97, 110, 111, 112, 121, 116, 111, 112, 46, 84, 111, 112, 87, 97, 105, 116, 115, 32, 99, 97, 110, 111, 112, 121, 47, 99, 97, 110, 111, 112, 121, 116, 111, 112, 46, 84, 111, 112, 80, 104, 97, 110, 116, 111, 109, 32, 99, 97, 110, 111, 112, 121, 47, 99, 97, 110, 111, 112, 121, 116, 111, 112, 46, 84, 111, 112, 79, 119, 110, 32, 99, 97, 110, 111, 112, 121, 47, 99, 97, 110, 111, 112, 121, 116, 111, 112, 46, 84, 111, 112, 76, 111, 115, 116] : List Nat).map Char.ofNat))) := by
 show Tryz.progTables.initOrder = _
 unfold Tryz.progTables
 dsimp only
 kernel_rfl
theorem uK : ∃ R, behindMainWord (wordsSigns Tryz.pinned.checked.prog.initOrder.toList) = [99, 117, 116].map Char.ofNat :: R := TP QY (by decide +kernel) (by decide +kernel)
theorem AI : Tryz.pinned.checked.prog.laysLater = false := by kernel_rfl
theorem vI : Tryz.pinned.checked.prog.bearsReflect = false := by kernel_rfl
theorem CV : Tryz.pinned.checked.prog.doorFits [] = true := by kernel_rfl
theorem CW : Tryz.pinned.checked.prog.mayEnter = true := II uK AI vI CV
theorem yU : Tryz.pinned.checked.prog.liftsFinal = false := CU uK
theorem QZ : Tryz.pinned.checked.prog.make = some .cut := YL uK
theorem vJ : laidOutB Tryz.pinned.checked.prog = true := by kernel_rfl
theorem AJ : mapsRowed Tryz.pinned.checked.prog = true := by kernel_rfl
theorem MM : (Tryz.pinned.checked.prog.stops == []) = true := by kernel_rfl
theorem AK : (Tryz.pinned.checked.prog.stopKnobs == []) = true := by kernel_rfl
theorem yV : Tryz.pinned.checked.prog.stopsHeard = true := by kernel_rfl

abbrev By := List UInt8
theorem lO : ∀ a b c : By, Op.bytesLess a b = true → Op.bytesLess b c = true → Op.bytesLess a c = true
  | _, _, [], _, h => by cases ‹By› <;> cases h
  | [], _, _ :: _, _, _ => by simp [Op.bytesLess]
  | _ :: _, [], _ :: _, h, _ => by cases h
  | x :: a, y :: b, z :: c, h, k => by
    simp only [Op.bytesLess, Bool.or_eq_true, decide_eq_true_eq, Bool.and_eq_true, beq_iff_eq] at *
    rcases h with h | ⟨rfl, h⟩
    · rcases k with k | ⟨rfl, k⟩
      · left
        have h1 := UInt8.lt_iff_toNat_lt.1 h; have h2 := UInt8.lt_iff_toNat_lt.1 k
        exact UInt8.lt_iff_toNat_lt.2 (by omega)
      · exact .inl h
    · rcases k with k | ⟨rfl, k⟩
      · exact .inl k
      · exact .inr ⟨rfl, lO a b c h k⟩
theorem qJ : ∀ a b : By, Op.bytesLess a b = false → Op.bytesLess b a = false → a = b
  | [], [], _, _ => rfl
  | [], _ :: _, h, _ => by simp [Op.bytesLess] at h
  | _ :: _, [], _, h => by simp [Op.bytesLess] at h
  | x :: a, y :: b, h, k => by
    simp only [Op.bytesLess, Bool.or_eq_false_iff, decide_eq_false_iff_not, Bool.and_eq_false_iff, beq_eq_false_iff_ne] at h k
    have hxy : x = y := by
      apply UInt8.toNat_inj.1
      have h1 : ¬ x.toNat < y.toNat := fun q => h.1 (UInt8.lt_iff_toNat_lt.2 q)
      have h2 : ¬ y.toNat < x.toNat := fun q => k.1 (UInt8.lt_iff_toNat_lt.2 q)
      omega
    subst hxy
    rw [qJ a b (h.2.resolve_left (fun q => q rfl)) (k.2.resolve_left (fun q => q rfl))]
theorem tE {a b : By} (h : Op.bytesLess a b = true) : a ≠ b := by rintro rfl; rw [jA] at h; cases h
abbrev Lt (a b : By) : Prop := Op.bytesLess a b = true
def eQ (a b : By) : Int := if Op.bytesLess a b then -1 else if a = b then 0 else 1
theorem qK {a b : By} : eQ a b < 0 ↔ Lt a b := by
 unfold eQ Lt; cases h : Op.bytesLess a b <;> simp; split <;> omega
theorem OW {a b : By} : eQ a b = 0 ↔ a = b := by
 unfold eQ
 cases h : Op.bytesLess a b with
 | true => simp; exact tE h
 | false => simp only [Bool.false_eq_true, if_false]; split <;> simp_all
theorem YM {a b : By} : 0 < eQ a b ↔ Lt b a := by
 unfold eQ Lt
 cases h : Op.bytesLess a b with
 | true => simp; exact qI a b h
 | false =>
  simp only [Bool.false_eq_true, if_false]
  split
  ·rename_i e; subst e; simp [jA]
  ·rename_i e
   cases k : Op.bytesLess b a with
   | true => simp
   | false => exact absurd (qJ a b h k) e
section
variable {β : Type} (f : β → By)
abbrev rR (l : List β) : Prop := l.Pairwise fun p q => Lt (f p) (f q)
def lH (l : List β) (k : By) : Nat := (l.takeWhile fun p => Op.bytesLess (f p) k).length
def yD (l : List β) (k : By) : Bool := l.any fun p => f p == k
theorem jU (l : List β) (k : By) : lH f l k ≤ l.length := by
 unfold lH; exact (List.takeWhile_prefix _).length_le
variable {f}
theorem vK {l : List β} {k : By} {i : Nat} (hi : i < lH f l k) (h : i < l.length) : Lt (f l[i]) k := by
 unfold lH at hi
 have e : (l.takeWhile fun p => Op.bytesLess (f p) k)[i] = l[i] := (List.takeWhile_prefix _).getElem hi
 have hp := List.all_eq_true.1 (List.all_takeWhile (p := fun p => Op.bytesLess (f p) k) (l := l)) _ (List.getElem_mem hi)
 rw [e] at hp
 exact hp
theorem kG (p : β) (l : List β) (k : By) : lH f (p :: l) k = if Op.bytesLess (f p) k then lH f l k + 1 else 0 := by
 unfold lH
 rw [List.takeWhile_cons]
 split <;> simp
theorem vL : ∀ {l : List β} {k : By}, rR f l → ∀ {i : Nat} (_ : lH f l k ≤ i) (h : i < l.length), ¬ Lt (f l[i]) k
  | [], _, _, i, _, h => by simp at h
  | p :: l, k, hr, i, hi, h => by
    rw [kG] at hi
    rw [rR, List.pairwise_cons] at hr
    split at hi
    · rename_i hlt
      cases i with
      | zero => omega
      | succ i => exact vL hr.2 (by omega) (by simpa using h)
    · rename_i hlt
      cases i with
      | zero => simpa using hlt
      | succ i =>
        simp only [List.getElem_cons_succ]
        intro h2
        have := hr.1 (l[i]'(by simpa using h)) (List.getElem_mem _)
        exact hlt (lO _ _ _ this h2)
theorem FR {l : List β} {k : By} {n : Nat} (hn : n ≤ l.length) (h1 : ∀ (i : Nat) (h : i < l.length), i < n → Lt (f l[i]) k) (h2 : ∀ (i : Nat) (h : i < l.length), n ≤ i → ¬ Lt (f l[i]) k) : lH f l k = n := by
 induction l generalizing n with
 | nil => simp at hn; subst hn; rfl
 | cons p l ih =>
  rw [kG]
  cases n with
  | zero =>
   have := h2 0 (by simp) (by omega)
   rw [if_neg (by simpa using this)]
  | succ n =>
   rw [if_pos (show Lt (f p) k from h1 0 (by simp) (by omega))]
   rw [ih (n := n) (by simpa using hn) (fun i h hi => by have := h1 (i + 1) (by simpa using h) (by omega); simpa using this) (fun i h hi => by have := h2 (i + 1) (by simpa using h) (by omega); simpa using this)]
theorem pJ {l : List β} {k : By} : yD f l k = true ↔ ∃ p ∈ l, f p = k := by simp [yD]
theorem iA {l : List β} {k : By} (hr : rR f l) : yD f l k = true ↔ ∃ h : lH f l k < l.length, f (l[lH f l k]) = k := by
 rw [pJ]
 constructor
 ·rintro ⟨p, hp, hk⟩
  obtain ⟨i, hi, rfl⟩ := List.mem_iff_getElem.1 hp
  have e : lH f l k = i := FR (Nat.le_of_lt hi) (fun j hj hji => by
   rw [← hk]; exact List.pairwise_iff_getElem.1 hr j i hj hi hji) (fun j hj hij => by
   rw [← hk]
   intro h
   rcases Nat.lt_or_eq_of_le hij with h1 | h1
   ·exact absurd (lO _ _ _ h (List.pairwise_iff_getElem.1 hr i j hi hj h1)) (by rw [jA]; simp)
   ·subst h1; rw [Lt, jA] at h; cases h)
  subst e
  exact ⟨hi, hk⟩
 ·rintro ⟨h, hk⟩
  exact ⟨_, List.getElem_mem h, hk⟩
end
section
variable {α : Type}
abbrev fO (l : List (By × α)) : Prop := rR (·.1) l
abbrev aS (l : List (By × α)) (k : By) : Nat := lH (·.1) l k
abbrev eW (l : List (By × α)) (k : By) : Bool := yD (·.1) l k
def jM (l : List (By × α)) (k : By) : Option α := (l.find? fun p => p.1 == k).map (·.2)
def eO (l : List (By × α)) (k : By) (v : α) : List (By × α) := if eW l k then l.set (aS l k) (k, v) else l.take (aS l k) ++ (k, v) :: l.drop (aS l k)
def gG (l : List (By × α)) (k : By) : List (By × α) := if eW l k then l.take (aS l k) ++ l.drop (aS l k + 1) else l
def gI (l : List (By × α)) (a b : By) : List (By × α) := l.filter fun p => !Op.bytesLess p.1 a && !Op.bytesLess b p.1
end
abbrev Pr := By × By
def AL (p : Pr) : Prop := 1 ≤ p.1.length ∧ p.1.length ≤ 16 ∧ p.2.length ≤ 32
structure TreeOk (n : Nat) (l : List Pr) : Prop where
  len : l.length ≤ n
  ok : ∀ p ∈ l, AL p
  rise : fO l
section
variable {α : Type}
def xH (k : By) (v : α) : List (By × α) → List (By × α)
  | [] => [(k, v)]
  | p :: l => if Op.bytesLess p.1 k then p :: xH k v l else if p.1 = k then (k, v) :: l else (k, v) :: p :: l
def xI (k : By) : List (By × α) → List (By × α)
  | [] => []
  | p :: l => if Op.bytesLess p.1 k then p :: xI k l else if p.1 = k then l else p :: l
theorem vM {p : By × α} {l : List (By × α)} {k : By} (h : Lt p.1 k) : eW (p :: l) k = eW l k := by
 have := tE h
 simp [eW, yD, this]
theorem vN {p : By × α} {l : List (By × α)} {k : By} (hr : fO (p :: l)) (h : ¬ Lt p.1 k) (hne : p.1 ≠ k) : eW (p :: l) k = false := by
 cases hh : eW (p :: l) k with
 | false => rfl
 | true =>
  obtain ⟨h1, h2⟩ := (iA hr).1 hh
  have h0 : lH (·.1) (p :: l) k = 0 := by rw [kG, if_neg h]
  simp only [h0, List.getElem_cons_zero] at h2
  exact absurd h2 hne
theorem pK (k : By) (v : α) : ∀ {l : List (By × α)}, fO l → eO l k v = xH k v l
  | [], _ => by simp [eO, eW, yD, xH]
  | p :: l, hr => by
    have hr' := (List.pairwise_cons.1 hr).2
    unfold xH
    split
    · rename_i h
      rw [← pK k v hr']
      have hp : aS (p :: l) k = aS l k + 1 := by rw [aS, kG, if_pos h]
      unfold eO
      rw [vM h, hp]
      split <;> simp
    · rename_i h
      have hp : aS (p :: l) k = 0 := by rw [aS, kG, if_neg h]
      split
      · rename_i he
        have : eW (p :: l) k = true := pJ.2 ⟨p, by simp, he⟩
        unfold eO
        rw [if_pos this, hp]
        simp
      · rename_i he
        unfold eO
        rw [vN hr h he, hp]
        simp
theorem pL (k : By) : ∀ {l : List (By × α)}, fO l → gG l k = xI k l
  | [], _ => by simp [gG, eW, yD, xI]
  | p :: l, hr => by
    have hr' := (List.pairwise_cons.1 hr).2
    unfold xI
    split
    · rename_i h
      rw [← pL k hr']
      have hp : aS (p :: l) k = aS l k + 1 := by rw [aS, kG, if_pos h]
      unfold gG
      rw [vM h, hp]
      split <;> simp
    · rename_i h
      have hp : aS (p :: l) k = 0 := by rw [aS, kG, if_neg h]
      split
      · rename_i he
        have : eW (p :: l) k = true := pJ.2 ⟨p, by simp, he⟩
        unfold gG
        rw [if_pos this, hp]
        simp
      · rename_i he
        unfold gG
        rw [vN hr h he]
        simp
theorem rS {k : By} {v : α} {q : By × α} : ∀ {l : List (By × α)}, q ∈ xH k v l → q = (k, v) ∨ q ∈ l
  | [], h => by simp [xH] at h; exact .inl h
  | p :: l, h => by
    unfold xH at h
    split at h
    · rcases List.mem_cons.1 h with rfl | h
      · exact .inr (by simp)
      · rcases rS h with h | h
        · exact .inl h
        · exact .inr (List.mem_cons_of_mem _ h)
    · split at h <;> simp only [List.mem_cons] at h ⊢ <;> rcases h with h | h <;> simp_all
theorem rT {k : By} {q : By × α} : ∀ {l : List (By × α)}, q ∈ xI k l → q ∈ l
  | [], h => by simp [xI] at h
  | p :: l, h => by
    unfold xI at h
    split at h
    · rcases List.mem_cons.1 h with rfl | h
      · simp
      · exact List.mem_cons_of_mem _ (rT h)
    · split at h
      · exact List.mem_cons_of_mem _ h
      · exact h
theorem DP {k : By} {v : α} : ∀ {l : List (By × α)}, fO l → fO (xH k v l)
  | [], _ => by simp [xH, fO, rR]
  | p :: l, hr => by
    obtain ⟨h1, h2⟩ := List.pairwise_cons.1 hr
    unfold xH
    split
    · rename_i h
      refine List.pairwise_cons.2 ⟨fun q hq => ?_, DP h2⟩
      rcases rS hq with rfl | hq
      · exact h
      · exact h1 q hq
    · rename_i h
      split
      · rename_i he
        refine List.pairwise_cons.2 ⟨fun q hq => ?_, h2⟩
        have : Lt p.1 q.1 := h1 q hq
        rw [he] at this
        exact this
      · rename_i he
        have hk : Lt k p.1 := by
          cases hx : Op.bytesLess k p.1 with
          | true => exact hx
          | false => exact absurd (qJ _ _ (by simpa using h) hx) he
        refine List.pairwise_cons.2 ⟨fun q hq => ?_, hr⟩
        rcases List.mem_cons.1 hq with rfl | hq
        · exact hk
        · exact lO _ _ _ hk (h1 q hq)
theorem DQ {k : By} : ∀ {l : List (By × α)}, fO l → fO (xI k l)
  | [], _ => by simp [xI, fO, rR]
  | p :: l, hr => by
    obtain ⟨h1, h2⟩ := List.pairwise_cons.1 hr
    unfold xI
    split
    · exact List.pairwise_cons.2 ⟨fun q hq => h1 q (rT hq), DQ h2⟩
    · split
      · exact h2
      · exact hr
theorem iB (p : By × α) (l : List (By × α)) (k : By) : jM (p :: l) k = if p.1 = k then some p.2 else jM l k := by
 unfold jM
 rw [List.find?_cons]
 by_cases h : p.1 = k
 ·simp [h]
 ·simp [h, beq_eq_false_iff_ne.2 h]
theorem RA {l : List (By × α)} {k : By} (h : ∀ p ∈ l, p.1 ≠ k) : jM l k = none := by
 unfold jM
 rw [List.find?_eq_none.2 (by simpa using h)]
 rfl
theorem DR {p : By × α} {l : List (By × α)} {k : By} (hr : fO (p :: l)) (h : ¬ Lt p.1 k) : jM l k = none := by
 refine RA fun q hq e => h ?_
 rw [← e]
 exact (List.pairwise_cons.1 hr).1 q hq
theorem DS {k : By} {v : α} (j : By) : ∀ {l : List (By × α)}, fO l → jM (xH k v l) j = if k = j then some v else jM l j
  | [], _ => by simp [xH, iB]
  | p :: l, hr => by
    have hr' := (List.pairwise_cons.1 hr).2
    unfold xH
    split
    · rename_i h
      rw [iB, DS j hr', iB]
      by_cases e : p.1 = j
      · have : k ≠ j := by rintro rfl; exact tE h e
        simp [e, this]
      · simp [e]
    · split
      · rename_i he
        rw [iB, iB, he]
        by_cases e : k = j <;> simp [e]
      · rw [iB]
theorem DT {k : By} (j : By) : ∀ {l : List (By × α)}, fO l → jM (xI k l) j = if k = j then none else jM l j
  | [], _ => by simp [xI, jM]
  | p :: l, hr => by
    have hr' := (List.pairwise_cons.1 hr).2
    unfold xI
    split
    · rename_i h
      rw [iB, DT j hr', iB]
      by_cases e : p.1 = j
      · have : k ≠ j := by rintro rfl; exact tE h e
        simp [e, this]
      · simp [e]
    · rename_i h
      split
      · rename_i he
        rw [iB, he]
        by_cases e : k = j
        · subst e
          simp [DR hr h]
        · simp [e]
      · rename_i he
        by_cases e : k = j
        · subst e
          rw [if_pos rfl, iB, if_neg he, DR hr h]
        · simp [e]
theorem DU {l : List (By × α)} (hr : fO l) (k : By) (v : α) (j : By) : jM (eO l k v) j = if k = j then some v else jM l j := by rw [pK k v hr, DS j hr]
theorem DV {l : List (By × α)} (hr : fO l) (k j : By) : jM (gG l k) j = if k = j then none else jM l j := by rw [pL k hr, DT j hr]
theorem DW {l : List (By × α)} (hr : fO l) (k : By) (v : α) : fO (eO l k v) := by rw [pK k v hr]; exact DP hr
theorem DX {l : List (By × α)} (hr : fO l) (k : By) : fO (gG l k) := by rw [pL k hr]; exact DQ hr
theorem DY {l : List (By × α)} {k : By} : eW l k = (jM l k).isSome := by
 rw [Bool.eq_iff_iff, eW, pJ, jM]
 simp [List.find?_isSome]
theorem jB (l : List (By × α)) (k : By) (v : α) : (eO l k v).length = if eW l k then l.length else l.length + 1 := by
 unfold eO
 have := jU (·.1) l k
 split
 ·simp
 ·simp only [List.length_append, List.length_take, List.length_cons, List.length_drop, aS]; omega
theorem IJ {l : List (By × α)} (hr : fO l) (k : By) : (gG l k).length = if eW l k then l.length - 1 else l.length := by
 unfold gG
 split
 ·rename_i h
  obtain ⟨h1, _⟩ := (iA hr).1 h
  simp only [List.length_append, List.length_take, List.length_drop, aS] at *; omega
 ·rfl
theorem TQ {l : List (By × α)} {k : By} {v : α} (h : jM l k = some v) : (k, v) ∈ l := by
 unfold jM at h
 obtain ⟨p, hp, rfl⟩ := Option.map_eq_some_iff.1 h
 have h1 := List.find?_some hp
 have h2 := List.mem_of_find?_eq_some hp
 have : p.1 = k := by simpa using h1
 rw [← this]; exact h2
theorem AM {l : List (By × α)} (hr : fO l) {p : By × α} (h : p ∈ l) : jM l p.1 = some p.2 := by
 induction l with
 | nil => simp at h
 | cons q l ih =>
  obtain ⟨h1, h2⟩ := List.pairwise_cons.1 hr
  rw [iB]
  rcases List.mem_cons.1 h with rfl | h
  ·simp
  ·rw [if_neg (tE (h1 p h)), ih h2 h]
end
theorem TreeOk.put {n m : Nat} {l : List Pr} {k v : By} (h : TreeOk n l) (hp : AL (k, v)) (hm : (eO l k v).length ≤ m) : TreeOk m (eO l k v) := by
 refine ⟨hm, fun p hp' => ?_, DW h.rise k v⟩
 rw [pK k v h.rise] at hp'
 rcases rS hp' with rfl | h'
 ·exact hp
 ·exact h.ok p h'
theorem TreeOk.del {n : Nat} {l : List Pr} {k : By} (h : TreeOk n l) : TreeOk n (gG l k) := by
 refine ⟨?_, fun p hp' => ?_, DX h.rise k⟩
 ·rw [IJ h.rise]; have := h.len; split <;> omega
 ·rw [pL k h.rise] at hp'; exact h.ok p (rT hp')
theorem TreeOk.mono {n m : Nat} {l : List Pr} (h : TreeOk n l) (hm : n ≤ m) : TreeOk m l := ⟨Nat.le_trans h.len hm, h.ok, h.rise⟩
theorem TreeOk.nil (n : Nat) : TreeOk n [] := ⟨Nat.zero_le _, by simp, by simp [fO, rR]⟩
section
variable {α : Type}
theorem FS {l : List (By × α)} (hr : fO l) (a b : By) : gI l a b = (l.take (if eW l b then aS l b + 1 else aS l b)).drop (aS l a) := by
 have key : ∀ (i : Nat) (h : i < l.length), (i < (if eW l b then aS l b + 1 else aS l b)) ↔ Op.bytesLess b l[i].1 = false := by
  intro i h
  by_cases hh : eW l b = true
  ·rw [if_pos hh]
   obtain ⟨h1, h2⟩ := (iA hr).1 hh
   constructor
   ·intro hi
    rcases Nat.lt_or_eq_of_le (Nat.le_of_lt_succ hi) with h3 | h3
    ·exact qI _ _ (vK (f := (·.1)) h3 h)
    ·subst h3
     rw [show l[lH (·.1) l b].1 = b from h2, jA]
   ·intro hb
    apply Nat.lt_succ_of_le
    rcases Nat.lt_or_ge (aS l b) i with h3 | h3
    ·have : Lt l[lH (·.1) l b].1 l[i].1 := List.pairwise_iff_getElem.1 hr _ _ h1 h h3
     rw [show l[lH (·.1) l b].1 = b from h2] at this
     rw [Lt, hb] at this; cases this
    ·exact h3
  ·rw [if_neg hh]
   constructor
   ·intro hi; exact qI _ _ (vK (f := (·.1)) hi h)
   ·intro hb
    rcases Nat.lt_or_ge i (aS l b) with h3 | h3
    ·exact h3
    ·have h4 := vL hr h3 h
     have := qJ _ _ (by simpa using h4) hb
     exact absurd (pJ.2 ⟨l[i], List.getElem_mem _, this⟩) hh
 have key2 : ∀ (i : Nat) (h : i < l.length), aS l a ≤ i ↔ Op.bytesLess l[i].1 a = false := by
  intro i h
  constructor
  ·intro hi; have := vL hr hi h; simpa using this
  ·intro hb
   rcases Nat.lt_or_ge i (aS l a) with h3 | h3
   ·have := vK (f := (·.1)) h3 h
    rw [Lt, hb] at this; cases this
   ·exact h3
 have hle : (if eW l b then aS l b + 1 else aS l b) ≤ l.length := by
  split
  ·rename_i hh
   obtain ⟨h1, _⟩ := (iA hr).1 hh
   exact h1
  ·exact jU _ _ _
 generalize (if eW l b then aS l b + 1 else aS l b) = n at *
 generalize aS l a = m at *
 clear hr
 unfold gI
 induction l generalizing n m with
 | nil => simp
 | cons p l ih =>
  rw [List.filter_cons]
  have k1 := key 0 (by simp)
  have k2 := key2 0 (by simp)
  simp only [List.getElem_cons_zero] at k1 k2
  have key' : ∀ (n' : Nat), n = n' + 1 → ∀ (i : Nat) (h : i < l.length), i < n' ↔ Op.bytesLess b l[i].1 = false := by
   rintro n' rfl i h
   have := key (i + 1) (by simpa using h)
   simpa using this
  have key2' : ∀ (i : Nat) (h : i < l.length), m - 1 ≤ i ↔ Op.bytesLess l[i].1 a = false := by
   intro i h
   have := key2 (i + 1) (by simpa using h)
   simp only [List.getElem_cons_succ] at this
   rw [← this]; omega
  cases n with
  | zero =>
   have hz : ∀ (i : Nat) (h : i < l.length), i < 0 ↔ Op.bytesLess b l[i].1 = false := by
    intro i h
    have := key (i + 1) (by simpa using h)
    simp only [List.getElem_cons_succ] at this
    rw [← this]; omega
   have := ih 0 hz (by omega) (m - 1) key2'
   simp only [List.take_zero, List.drop_nil] at this ⊢
   have hb : Op.bytesLess b p.1 = true := by
    cases hx : Op.bytesLess b p.1 with
    | true => rfl
    | false => have := k1.2 hx; omega
   simp only [hb, Bool.not_true, Bool.and_false, Bool.false_eq_true, if_false]
   exact this
  | succ n' =>
   have := ih n' (key' n' rfl) (by simpa using hle) (m - 1) key2'
   have hb := k1.1 (by omega)
   cases m with
   | zero =>
    have ha := k2.1 (by omega)
    simp only [Nat.zero_sub, List.drop_zero] at this
    simp [ha, hb, this]
   | succ m' =>
    have ha : Op.bytesLess p.1 a = true := by
     cases hx : Op.bytesLess p.1 a with
     | true => rfl
     | false => have := k2.2 hx; omega
    simp only [Nat.add_sub_cancel] at this
    simp [ha, this]
end
def at0 (S : List (BitVec 64)) (i : Nat) : BitVec 64 := S.getD i 0
def TR (S : List (BitVec 64)) (x : Nat) : BitVec 64 := at0 S x ^^^ at0 S (x + 5) ^^^ at0 S (x + 10) ^^^ at0 S (x + 15) ^^^ at0 S (x + 20)
def oL (x : BitVec 64) (n : Nat) : BitVec 64 := (x <<< n) ||| (x >>> (64 - n))
def qL (n : Nat) (f : Nat → BitVec 64) : List (BitVec 64) := (List.range n).map f
def Cs (S C : List (BitVec 64)) (i : Nat) : BitVec 64 := at0 S i ^^^ (at0 C ((i % 5 + 4) % 5) ^^^ oL (at0 C ((i % 5 + 1) % 5)) 1)
def thL (S C : List (BitVec 64)) (k : Nat) : List (BitVec 64) := qL 25 fun i => if i < k then Cs S C i else at0 S i
def vO : List Nat := [10, 7, 11, 17, 18, 3, 5, 16, 8, 21, 24, 4, 15, 23, 19, 13, 12, 2, 20, 14, 22, 9, 6, 1]
def Ct : List Nat := [1, 3, 6, 10, 15, 21, 28, 36, 45, 55, 2, 14, 27, 41, 56, 8, 25, 43, 62, 18, 39, 61, 20, 44]
def YN : List Nat := [1, 32898, 9223372036854808714, 9223372039002292224, 32907, 2147483649, 9223372039002292353, 9223372036854808585, 138, 136, 2147516425, 2147483658, 2147516555, 9223372036854775947, 9223372036854808713, 9223372036854808579, 9223372036854808578, 9223372036854775936, 32778, 9223372039002259466, 9223372039002292353, 9223372036854808704, 2147483649, 9223372039002292232]
def lI (i : Nat) : Nat := vO.getD i 0
def mO (i : Nat) : Nat := Ct.getD i 0
def xJ (i : Nat) : BitVec 64 := BitVec.ofNat 64 (YN.getD i 0)
def qM (S : List (BitVec 64)) : Nat → List (BitVec 64) × BitVec 64
  | 0 => (S, at0 S 1)
  | k + 1 => let p := qM S k; (p.1.set (lI k) (oL p.2 (mO k)), at0 p.1 (lI k))
def IK (S : List (BitVec 64)) (i : Nat) : BitVec 64 := at0 S i ^^^ (~~~ (at0 S (i / 5 * 5 + (i % 5 + 1) % 5)) &&& at0 S (i / 5 * 5 + (i % 5 + 2) % 5))
def YO (S : List (BitVec 64)) : List (BitVec 64) := qL 25 (IK S)
def DZ (S : List (BitVec 64)) (r : Nat) : List (BitVec 64) :=
  let a := thL S ((List.range 5).map (TR S)) 25
  let b := (qM a 24).1
  let c := YO b
  c.set 0 (at0 c 0 ^^^ xJ r)
def mP (S : List (BitVec 64)) (n : Nat) : List (BitVec 64) := (List.range n).foldl DZ S
def CX (b : List UInt8) : List UInt8 :=
  let p := b ++ [6]
  let q := p ++ List.replicate ((136 - p.length % 136) % 136) 0
  q.set (q.length - 1) (q.getD (q.length - 1) 0 ||| 128)
def rP (S : List (BitVec 64)) (p : List UInt8) (n : Nat) : List (BitVec 64) :=
  (List.range n).foldl (fun S i => S.set (i / 8) (at0 S (i / 8) ^^^ (BitVec.ofNat 64 (p.getD i 0).toNat <<< (i % 8 * 8)))) S
def mZ (S : List (BitVec 64)) : List UInt8 → Nat → List (BitVec 64)
  | _, 0 => S
  | p, n + 1 => mZ (mP (rP S p 136) 24) (p.drop 136) n
def IL (S : List (BitVec 64)) : List UInt8 := (List.range 32).map fun i => UInt8.ofNat ((at0 S (i / 8) >>> (i % 8 * 8)).toNat % 256)
def mQ (b : List UInt8) : List UInt8 := IL (mZ (List.replicate 25 0) (CX b) ((CX b).length / 136))
theorem AN (n : Nat) (f : Nat → BitVec 64) : (qL n f).length = n := by simp [qL]
theorem rU (b : List UInt8) : (mQ b).length = 32 := by simp [mQ, IL]
def En (p : By) : By := UInt8.ofNat (p.length / 256) :: UInt8.ofNat (p.length % 256) :: p
def Cu (k : UInt8) (ps : List By) : By := k :: ps.flatMap En
def FT (k : UInt8) (ps : List By) : By := mQ (Cu k ps)

abbrev aP := List (By × List Pr)
def AO (n : By) : Prop := 1 ≤ n.length ∧ n.length ≤ 8
structure ForestOk (m : Nat) (f : aP) : Prop where
  len : f.length ≤ 8
  name : ∀ t ∈ f, AO t.1
  some : ∀ t ∈ f, t.2 ≠ []
  tree : ∀ t ∈ f, TreeOk m t.2
  rise : fO f
def dD (f : aP) (n : By) : List Pr := (jM f n).getD []
def jV (f : aP) (n k : By) : Option By := jM (dD f n) k
structure Wr where
  name : By
  key : By
  gone : Bool
  value : By
structure WrOk (w : Wr) : Prop where
  name : AO w.name
  key1 : 1 ≤ w.key.length
  key2 : w.key.length ≤ 16
  value : w.value.length ≤ 32
  gone : w.gone = true → w.value = []
def iC (w : Wr) (old : List Pr) : List Pr := if w.gone then gG old w.key else eO old w.key w.value
def eH (f : aP) (w : Wr) : Option aP :=
  let nM := iC w (dD f w.name)
  if w.gone = false ∧ 60 < nM.length then none
  else if nM = [] then some (gG f w.name)
  else if 8 < (eO f w.name nM).length then none
  else some (eO f w.name nM)
def gJ (f : aP) : List Wr → Option aP
  | [] => some f
  | w :: ws => match eH f w with
    | some g => gJ g ws
    | none => none
theorem nP {m : Nat} {f : aP} (h : ForestOk m f) (n : By) : TreeOk m (dD f n) := by
 unfold dD
 cases hg : jM f n with
 | none => exact TreeOk.nil m
 | some t => exact h.tree _ (TQ hg)
theorem RB {f : aP} (hr : fO f) (n : By) (t : List Pr) (j : By) : dD (eO f n t) j = if n = j then t else dD f j := by
 unfold dD
 rw [DU hr]
 split <;> rfl
theorem RC {f : aP} (hr : fO f) (n j : By) : dD (gG f n) j = if n = j then [] else dD f j := by
 unfold dD
 rw [DV hr]
 split <;> rfl
theorem RD {old : List Pr} (hr : fO old) (w : Wr) (k : By) : jM (iC w old) k = if w.key = k then (if w.gone then none else some w.value) else jM old k := by
 unfold iC
 cases w.gone with
 | true => simp only [if_true]; exact DV hr _ _
 | false => simp only [Bool.false_eq_true, if_false]; exact DU hr _ _ _
theorem IM {m : Nat} {old : List Pr} (h : TreeOk m old) {w : Wr} (hw : WrOk w) : TreeOk (m + 1) (iC w old) := by
 unfold iC
 split
 ·exact h.del.mono (by omega)
 ·refine h.put ⟨hw.key1, hw.key2, hw.value⟩ ?_
  rw [jB]
  have := h.len
  split <;> omega
theorem rV {f g : aP} {w : Wr} (h : eH f w = some g) :
    (iC w (dD f w.name) = [] ∧ g = gG f w.name) ∨ (iC w (dD f w.name) ≠ [] ∧ g = eO f w.name (iC w (dD f w.name)) ∧ g.length ≤ 8) := by
 unfold eH at h
 dsimp only at h
 by_cases h1 : w.gone = false ∧ 60 < (iC w (dD f w.name)).length
 ·rw [if_pos h1] at h; cases h
 ·rw [if_neg h1] at h
  by_cases h2 : iC w (dD f w.name) = []
  ·rw [if_pos h2] at h; left; exact ⟨h2, by injection h with h; exact h.symm⟩
  ·rw [if_neg h2] at h
   by_cases h3 : 8 < (eO f w.name (iC w (dD f w.name))).length
   ·rw [if_pos h3] at h; cases h
   ·rw [if_neg h3] at h
    right
    injection h with h
    subst h
    exact ⟨h2, rfl, by omega⟩
theorem oM {m : Nat} {f : aP} (hf : ForestOk m f) {w : Wr} (hw : WrOk w) (hm : m < 60) (h : eH f w = none) : f.length = 8 ∧ eW f w.name = false ∧ w.gone = false := by
 unfold eH at h
 dsimp only at h
 have hl := (IM (nP hf w.name) hw).len
 rw [if_neg (by omega)] at h
 by_cases h2 : iC w (dD f w.name) = []
 ·rw [if_pos h2] at h; cases h
 ·rw [if_neg h2] at h
  by_cases h3 : 8 < (eO f w.name (iC w (dD f w.name))).length
  ·rw [jB] at h3
   have := hf.len
   cases hh : eW f w.name with
   | true => rw [hh] at h3; simp at h3; omega
   | false =>
    rw [hh] at h3
    simp at h3
    refine ⟨by omega, rfl, ?_⟩
    cases hg : w.gone with
    | false => rfl
    | true =>
     exfalso
     apply h2
     have e : jM f w.name = none := by
      rw [DY] at hh
      cases hx : jM f w.name with
      | none => rfl
      | some _ => rw [hx] at hh; cases hh
     unfold iC dD
     rw [hg, e]
     rfl
  ·rw [if_neg h3] at h; cases h
theorem xK {m : Nat} {f g : aP} (hf : ForestOk m f) {w : Wr} (hw : WrOk w) (h : eH f w = some g) : ForestOk (m + 1) g := by
 rcases rV h with ⟨h1, rfl⟩ | ⟨h1, rfl, h2⟩
 ·have hmem : ∀ t ∈ gG f w.name, t ∈ f := fun t ht => by rw [pL _ hf.rise] at ht; exact rT ht
  refine ⟨?_, fun t ht => hf.name t (hmem t ht), fun t ht => hf.some t (hmem t ht), fun t ht => (hf.tree t (hmem t ht)).mono (by omega), DX hf.rise _⟩
  rw [IJ hf.rise]
  have := hf.len
  split <;> omega
 ·have hmem : ∀ t ∈ eO f w.name (iC w (dD f w.name)), t = (w.name, iC w (dD f w.name)) ∨ t ∈ f := fun t ht => by rw [pK _ _ hf.rise] at ht; exact rS ht
  refine ⟨h2, fun t ht => ?_, fun t ht => ?_, fun t ht => ?_, DW hf.rise _ _⟩
  ·rcases hmem t ht with rfl | ht
   ·exact hw.name
   ·exact hf.name t ht
  ·rcases hmem t ht with rfl | ht
   ·exact h1
   ·exact hf.some t ht
  ·rcases hmem t ht with rfl | ht
   ·exact IM (nP hf _) hw
   ·exact (hf.tree t ht).mono (by omega)
theorem vP {f g : aP} (hr : fO f) {w : Wr} (h : eH f w = some g) (n : By) : dD g n = if w.name = n then iC w (dD f w.name) else dD f n := by
 rcases rV h with ⟨h1, rfl⟩ | ⟨h1, rfl, h2⟩
 ·rw [RC hr, h1]
 ·rw [RB hr]
theorem IN {m : Nat} {f g : aP} (hf : ForestOk m f) {w : Wr} (h : eH f w = some g) (n k : By) :
    jV g n k = if w.name = n ∧ w.key = k then (if w.gone then none else some w.value) else jV f n k := by
 unfold jV
 rw [vP hf.rise h]
 by_cases e : w.name = n
 ·subst e
  rw [if_pos rfl, RD (nP hf _).rise]
  by_cases e2 : w.key = k <;> simp [e2]
 ·simp [e]
theorem ForestOk.nil (m : Nat) : ForestOk m [] := ⟨by simp, by simp, by simp, by simp, by simp [fO, rR]⟩
theorem ForestOk.mono {m n : Nat} {f : aP} (h : ForestOk m f) (hm : m ≤ n) : ForestOk n f := ⟨h.len, h.name, h.some, fun t ht => (h.tree t ht).mono hm, h.rise⟩
theorem EA : ∀ {ws : List Wr} {m : Nat} {f g : aP}, ForestOk m f → (∀ w ∈ ws, WrOk w) → gJ f ws = some g → ForestOk (m + ws.length) g
  | [], m, f, g, hf, _, h => by cases h; exact hf
  | w :: ws, m, f, g, hf, hw, h => by
    unfold gJ at h
    split at h
    · rename_i f1 e
      have := EA (xK hf (hw w (by simp)) e) (fun x hx => hw x (by simp [hx])) h
      refine this.mono ?_
      simp; omega
    · cases h
def AP (ws : List Wr) (n k : By) : Option Wr := ws.reverse.find? fun w => w.name == n && w.key == k
theorem MN (w : Wr) (ws : List Wr) (n k : By) : AP (w :: ws) n k = match AP ws n k with | some x => some x | none => if w.name = n ∧ w.key = k then some w else none := by
 unfold AP
 rw [List.reverse_cons, List.find?_append]
 cases List.find? (fun w => w.name == n && w.key == k) ws.reverse with
 | some x => rfl
 | none =>
  by_cases h : w.name = n ∧ w.key = k
  ·simp [h.1, h.2]
  ·rw [if_neg h]
   have : (w.name == n && w.key == k) = false := by
    rw [Bool.and_eq_false_iff, beq_eq_false_iff_ne, beq_eq_false_iff_ne]
    by_cases h1 : w.name = n
    ·exact .inr fun h2 => h ⟨h1, h2⟩
    ·exact .inl h1
   simp [this]
theorem yE : ∀ {ws : List Wr} {m : Nat} {f g : aP}, ForestOk m f → (∀ w ∈ ws, WrOk w) → gJ f ws = some g → ∀ n k,
    jV g n k = match AP ws n k with | some w => (if w.gone then none else some w.value) | none => jV f n k
  | [], m, f, g, hf, _, h, n, k => by cases h; rfl
  | w :: ws, m, f, g, hf, hw, h, n, k => by
    unfold gJ at h
    split at h
    · rename_i f1 e
      rw [yE (xK hf (hw w (by simp)) e) (fun x hx => hw x (by simp [hx])) h n k, MN]
      cases AP ws n k with
      | some x => rfl
      | none =>
        simp only []
        rw [IN hf e]
        by_cases hh : w.name = n ∧ w.key = k
        · simp [hh]
        · simp [hh]
    · cases h

section
variable {α : Type}
def FU (l : List (By × α)) (b : By) : Nat := if eW l b then aS l b + 1 else aS l b
theorem OX {l : List (By × α)} (hr : fO l) (b : By) : FU l b ≤ l.length := by
 unfold FU
 split
 ·rename_i h
  obtain ⟨h1, _⟩ := (iA hr).1 h
  exact h1
 ·exact jU _ _ _
theorem MO {l : List (By × α)} (hr : fO l) (a b : By) : gI l a b = (l.take (FU l b)).drop (aS l a) := FS hr a b
end

structure Rd where
  name : By
  key : By
  wide : Bool
  last : By
deriving DecidableEq
structure RdOk (r : Rd) : Prop where
  name : AO r.name
  key : 1 ≤ r.key.length ∧ r.key.length ≤ 16
  last : if r.wide then 1 ≤ r.last.length ∧ r.last.length ≤ 16 else r.last = []
structure Tx where
  start : Int
  reads : List Rd
  writes : List Wr
def cT (a b : Wr) : Bool := a.name == b.name && a.key == b.key
theorem uL {a b : Wr} : cT a b = true ↔ a.name = b.name ∧ a.key = b.key := by simp [cT]
structure TxOk (t : Tx) : Prop where
  start : 0 ≤ t.start ∧ t.start ≤ 1048576
  nr : t.reads.length ≤ 20
  nw : t.writes.length ≤ 10
  reads : ∀ r ∈ t.reads, RdOk r
  rdiff : t.reads.Pairwise (· ≠ ·)
  writes : ∀ w ∈ t.writes, WrOk w
  wdiff : t.writes.Pairwise fun a b => cT a b = false
def gH (t : Tx) (r : Rd) : Option Tx := if r ∈ t.reads then some t else if t.reads.length = 20 then none else some { t with reads := t.reads ++ [r] }
def yW (ws : List Wr) (w : Wr) : Option Nat := ws.findIdx? fun x => cT x w
def fD (t : Tx) (w : Wr) : Option Tx := match yW t.writes w with
  | some i => some { t with writes := t.writes.set i w }
  | none => if t.writes.length = 10 then none else some { t with writes := t.writes ++ [w] }
theorem TS {t u : Tx} (h : TxOk t) {r : Rd} (hr : RdOk r) (e : gH t r = some u) : TxOk u := by
 unfold gH at e
 split at e
 ·cases e; exact h
 ·rename_i hn
  split at e
  ·cases e
  ·cases e
   have := h.nr
   refine ⟨h.start, by simp; omega, h.nw, fun x hx => ?_, ?_, h.writes, h.wdiff⟩
   ·rcases List.mem_append.1 hx with hx | hx
    ·exact h.reads x hx
    ·rw [List.mem_singleton.1 hx]; exact hr
   ·refine List.pairwise_append.2 ⟨h.rdiff, by simp, fun a ha b hb => ?_⟩
    rw [List.mem_singleton.1 hb]
    rintro rfl; exact hn ha
theorem RE {ws : List Wr} {w : Wr} {i : Nat} (h : yW ws w = some i) : ∃ hi : i < ws.length, cT ws[i] w = true := by
 unfold yW at h
 obtain ⟨h1, h2, _⟩ := List.findIdx?_eq_some_iff_getElem.1 h
 exact ⟨h1, h2⟩
theorem RF {ws : List Wr} {w : Wr} (h : yW ws w = none) : ∀ x ∈ ws, cT x w = false := by
 unfold yW at h
 simpa using List.findIdx?_eq_none_iff.1 h
theorem vQ {a b c : Wr} (h : cT a b = true) : cT a c = cT b c := by
 obtain ⟨h1, h2⟩ := uL.1 h
 unfold cT; rw [h1, h2]
theorem yF (a b : Wr) : cT a b = cT b a := by
 rw [Bool.eq_iff_iff, uL, uL]; exact ⟨fun h => ⟨h.1.symm, h.2.symm⟩, fun h => ⟨h.1.symm, h.2.symm⟩⟩
theorem TT {ws : List Wr} {w : Wr} {i : Nat} (hi : i < ws.length) (hs : cT ws[i] w = true) (h : ws.Pairwise fun a b => cT a b = false) : (ws.set i w).Pairwise fun a b => cT a b = false := by
 rw [List.pairwise_iff_getElem] at h ⊢
 intro a b ha hb hab
 simp only [List.length_set] at ha hb
 have h0 := h a b ha hb hab
 rw [List.getElem_set, List.getElem_set]
 split
 ·rename_i e; subst e
  rw [if_neg (by omega), ← vQ hs]; exact h0
 ·split
  ·rename_i e; subst e
   rw [yF, ← vQ hs, yF]; exact h0
  ·exact h0
theorem RG {t u : Tx} (h : TxOk t) {w : Wr} (hw : WrOk w) (e : fD t w = some u) : TxOk u := by
 unfold fD at e
 split at e
 ·rename_i i hi
  cases e
  obtain ⟨h1, h2⟩ := RE hi
  refine ⟨h.start, h.nr, by simpa using h.nw, h.reads, h.rdiff, fun x hx => ?_, TT h1 h2 h.wdiff⟩
  rcases List.mem_or_eq_of_mem_set hx with hx | rfl
  ·exact h.writes x hx
  ·exact hw
 ·rename_i hi
  split at e
  ·cases e
  ·cases e
   have := h.nw
   refine ⟨h.start, h.nr, by simp; omega, h.reads, h.rdiff, fun x hx => ?_, ?_⟩
   ·rcases List.mem_append.1 hx with hx | hx
    ·exact h.writes x hx
    ·rw [List.mem_singleton.1 hx]; exact hw
   ·refine List.pairwise_append.2 ⟨h.wdiff, by simp, fun a ha b hb => ?_⟩
    rw [List.mem_singleton.1 hb]
    exact RF hi a ha
theorem MP {t u : Tx} {w : Wr} (e : fD t w = some u) : u.writes.length ≤ t.writes.length + 1 ∧ u.reads = t.reads ∧ u.start = t.start ∧ t.writes.length ≤ u.writes.length := by
 unfold fD at e
 split at e
 ·cases e; simp
 ·split at e
  ·cases e
  ·cases e; simp
theorem tF {t u : Tx} {r : Rd} (e : gH t r = some u) : u.reads.length ≤ t.reads.length + 1 ∧ u.writes = t.writes ∧ u.start = t.start := by
 unfold gH at e
 split at e
 ·cases e; simp
 ·split at e
  ·cases e
  ·cases e; simp
def Cv (ws : List Wr) (n k : By) : Option Wr := ws.find? fun w => w.name == n && w.key == k
def cJ (f : aP) (t : Tx) (n k : By) : Option By × Bool := match Cv t.writes n k with
  | some w => (if w.gone then none else some w.value, true)
  | none => (jV f n k, false)
def inR (n a b : By) (w : Wr) : Bool := w.name == n && !Op.bytesLess w.key a && !Op.bytesLess b w.key
def pM (n a b : By) (l : List Pr) (w : Wr) : Option (List Pr) := if inR n a b w then (if w.gone = false ∧ 60 < (iC w l).length then none else some (iC w l)) else some l
def iD (n a b : By) (l : List Pr) : List Wr → Option (List Pr)
  | [] => some l
  | w :: ws => match pM n a b l w with
    | some m => iD n a b m ws
    | none => none
def IP (f : aP) (t : Tx) (n a b : By) : Option (List Pr) := iD n a b (gI (dD f n) a b) t.writes
theorem IQ {α : Type} {l : List (By × α)} (hr : fO l) (a b : By) : fO (gI l a b) := List.Pairwise.filter _ hr
theorem TreeOk.range {n : Nat} {l : List Pr} (h : TreeOk n l) (a b : By) : TreeOk n (gI l a b) :=
  ⟨Nat.le_trans (List.length_filter_le _ _) h.len, fun p hp => h.ok p (List.mem_filter.1 hp).1, IQ h.rise a b⟩
def dM (r : Rd) (w : Wr) : Bool := r.name == w.name && (if r.wide then !Op.bytesLess w.key r.key && !Op.bytesLess r.last w.key else r.key == w.key)

def Eo (p : Pr) : By := FT 1 [p.1, p.2]
def TU (bit : Nat) (a b : By) : By := FT 2 [[UInt8.ofNat bit], a, b]
def FV (l : List Pr) : Nat := match l.head?, l.getLast? with
  | some p, some q => (Em p.1 q.1).toNat
  | _, _ => 0
def OY (bit : Nat) (l : List Pr) : Nat := (l.takeWhile fun p => !QU p.1 bit).length
def TV : Nat → List Pr → By
  | 0, _ => FT 0 []
  | _ + 1, [] => FT 0 []
  | _ + 1, [p] => Eo p
  | n + 1, p :: q :: l => TU (FV (p :: q :: l)) (TV n ((p :: q :: l).take (OY (FV (p :: q :: l)) (p :: q :: l)))) (TV n ((p :: q :: l).drop (OY (FV (p :: q :: l)) (p :: q :: l))))
def TW (l : List Pr) : By := TV l.length l
structure KeysOk (l : List Pr) : Prop where
  key : ∀ p ∈ l, 1 ≤ p.1.length ∧ p.1.length ≤ 16
  rise : fO l
theorem KeysOk.sub {l m : List Pr} (h : KeysOk l) (hs : m.Sublist l) : KeysOk m := ⟨fun p hp => h.key p (hs.subset hp), h.rise.sublist hs⟩
theorem TreeOk.keys {n : Nat} {l : List Pr} (h : TreeOk n l) : KeysOk l := ⟨fun p hp => ⟨(h.ok p hp).1, (h.ok p hp).2.1⟩, h.rise⟩

structure Stp where
  bit : Nat
  right : Bool
  other : By
def Cg (bit : Nat) (r : Bool) (l : List Pr) : List Pr := if r then l.drop (OY bit l) else l.take (OY bit l)
def MQ : Nat → List Pr → By → List Stp × Pr
  | 0, l, _ => ([], l.headD ([], []))
  | n + 1, l, k => if l.length ≤ 1 then ([], l.headD ([], [])) else
    let q := MQ n (Cg (FV l) (QU k (FV l)) l) k
    (⟨FV l, QU k (FV l), TW (Cg (FV l) (!QU k (FV l)) l)⟩ :: q.1, q.2)
def up1 (s : Stp) (d : By) : By := if s.right then TU s.bit s.other d else TU s.bit d s.other
structure Prf where
  empty : Bool
  steps : List Stp
  pair : Pr
def TX (l : List Pr) (k : By) : Prf := if l = [] then ⟨true, [], ([], [])⟩ else ⟨false, (MQ l.length l k).1, (MQ l.length l k).2⟩

def b8 (n : Nat) : UInt8 := UInt8.ofNat n
theorem mD {n : Nat} (h : n < 256) : (b8 n).toNat = n := by simp [b8]; omega
theorem OZ (x : UInt8) : b8 x.toNat = x := by simp [b8]
def dF (p : By) : By := b8 p.length :: p
def kN (w : Wr) : By := dF w.name ++ (dF w.key ++ if w.gone then [255] else dF w.value)
def eJ (turn : Nat) (ws : List Wr) : By := b8 (turn / 65536) :: b8 (turn / 256) :: b8 turn :: b8 ws.length :: ws.flatMap kN
structure Rr where
  rest : By
  short : Bool
def kO (n : Nat) (r : Rr) : By × Rr := if r.short = true ∨ r.rest.length < n then (List.replicate n 0, ⟨r.rest, true⟩) else (r.rest.take n, ⟨r.rest.drop n, false⟩)
def jW (r : Rr) : Nat × Rr := (((kO 1 r).1.headD 0).toNat, (kO 1 r).2)
def EB (r : Rr) : By × Rr := kO (jW r).1 (jW r).2
def wrR (r : Rr) : Wr × Rr :=
  let a := EB r
  let b := EB a.2
  let c := jW b.2
  if c.1 = 255 then (⟨a.1, b.1, true, []⟩, c.2) else let d := kO c.1 c.2; (⟨a.1, b.1, false, d.1⟩, d.2)
def qN : Nat → Rr → List Wr × Rr
  | 0, r => ([], r)
  | n + 1, r => let a := wrR r; let b := qN n a.2; (a.1 :: b.1, b.2)
structure Reads {α : Type} (f : Rr → α × Rr) : Prop where
  more : ∀ b t, (f ⟨b, false⟩).2.short = false → f ⟨b ++ t, false⟩ = ((f ⟨b, false⟩).1, ⟨(f ⟨b, false⟩).2.rest ++ t, false⟩)
  short : ∀ r, r.short = true → (f r).2.short = true
theorem Reads.map {α β : Type} {f : Rr → α × Rr} (hf : Reads f) (g : α → β) : Reads fun r => (g (f r).1, (f r).2) := by
 refine ⟨fun b t h => ?_, fun r h => hf.short r h⟩
 rw [hf.more b t h]
set_option linter.unusedVariables false
def cmR (r : Rr) : (Nat × List Wr) × Rr :=
  let x := jW r
  let y := jW x.2
  let z := jW y.2
  let n := jW z.2
  let l := qN n.1 n.2
  ((x.1 * 65536 + y.1 * 256 + z.1, l.1), l.2)
theorem EC (p t : By) : kO p.length ⟨p ++ t, false⟩ = (p, ⟨t, false⟩) := by unfold kO; simp
theorem qO (x : UInt8) (t : By) : jW ⟨x :: t, false⟩ = (x.toNat, ⟨t, false⟩) := by unfold jW kO; simp
theorem ED (p t : By) (h : p.length < 256) : EB ⟨dF p ++ t, false⟩ = (p, ⟨t, false⟩) := by
 unfold EB dF
 rw [List.cons_append, qO, mD h]
 exact EC p t
theorem YP (w : Wr) (t : By) (h : WrOk w) : wrR ⟨kN w ++ t, false⟩ = (w, ⟨t, false⟩) := by
 have h1 := h.name.2
 have h2 := h.key2
 have h3 := h.value
 unfold wrR kN
 simp only [List.append_assoc]
 rw [ED _ _ (by omega)]
 simp only
 rw [ED _ _ (by omega)]
 simp only
 cases hg : w.gone with
 | true =>
  simp only [if_true, List.cons_append, List.nil_append, qO]
  rw [if_pos (show ((255 : UInt8).toNat = 255) from rfl)]
  have := h.gone hg
  cases w; simp_all
 | false =>
  simp only [Bool.false_eq_true, if_false, dF, List.cons_append, qO]
  rw [mD (by omega), if_neg (by omega), EC]
  cases w; simp_all
theorem IR : ∀ (ws : List Wr) (t : By), (∀ w ∈ ws, WrOk w) → qN ws.length ⟨ws.flatMap kN ++ t, false⟩ = (ws, ⟨t, false⟩)
  | [], t, _ => rfl
  | w :: ws, t, h => by
    simp only [List.length_cons, qN, List.flatMap_cons, List.append_assoc]
    rw [YP w _ (h w (by simp))]
    simp only
    rw [IR ws t (fun x hx => h x (by simp [hx]))]
theorem YQ (turn : Nat) (ws : List Wr) (t : By) (h : ∀ w ∈ ws, WrOk w) (hl : ws.length < 256) (ht : turn < 16777216) : cmR ⟨eJ turn ws ++ t, false⟩ = ((turn, ws), ⟨t, false⟩) := by
 unfold cmR eJ
 simp only [List.cons_append, qO]
 rw [mD hl, IR ws t h, mD (by omega)]
 have e1 : (b8 (turn / 256)).toNat = turn / 256 % 256 := by simp [b8]
 have e2 : (b8 turn).toNat = turn % 256 := by simp [b8]
 rw [e1, e2]
 congr 2
 omega
theorem RH {w : Wr} (h : w.gone = true → w.value = []) : (kN w).length = 3 + w.name.length + w.key.length + w.value.length := by
 unfold kN dF
 cases hg : w.gone with
 | true => simp [h hg]; omega
 | false => simp; omega

def iQ : By → Option (By × By)
  | [] => none
  | x :: t => if t.length < x.toNat then none else some (t.take x.toNat, t.drop x.toNat)
theorem qP (x : UInt8) (t : By) : iQ (x :: t) = if t.length < x.toNat then none else some (t.take x.toNat, t.drop x.toNat) := rfl
def xL (c : Bool) (b : By) : Option (By × By) := if c then iQ b else some ([], b)
structure Rq where
  name : By
  key : By
  last : By
  value : By
def nQ (h : Nat) (b : By) : Option (Rq × By) :=
  match xL (h.testBit 0) b with
  | none => none
  | some n => match xL (h.testBit 1) n.2 with
    | none => none
    | some k => match xL (h.testBit 2) k.2 with
      | none => none
      | some l => match xL (h.testBit 3) l.2 with
        | none => none
        | some v => some (⟨n.1, k.1, l.1, v.1⟩, v.2)
def xM (c : Bool) (p : By) : By := if c then dF p else []
def FW (h : Nat) (r : Rq) : By := xM (h.testBit 0) r.name ++ (xM (h.testBit 1) r.key ++ (xM (h.testBit 2) r.last ++ xM (h.testBit 3) r.value))
theorem RI (p t : By) (h : p.length < 256) : iQ (dF p ++ t) = some (p, t) := by
 unfold dF
 rw [List.cons_append, qP, mD h, if_neg (by simp)]
 simp
theorem vR {c : Bool} {p t : By} (h : p.length < 256) (hc : c = false → p = []) : xL c (xM c p ++ t) = some (p, t) := by
 unfold xL xM
 cases c with
 | true => exact RI p t h
 | false => rw [hc rfl]; rfl
structure FitsW (h : Nat) (r : Rq) : Prop where
  name : r.name.length < 256 ∧ (h.testBit 0 = false → r.name = [])
  key : r.key.length < 256 ∧ (h.testBit 1 = false → r.key = [])
  last : r.last.length < 256 ∧ (h.testBit 2 = false → r.last = [])
  value : r.value.length < 256 ∧ (h.testBit 3 = false → r.value = [])
theorem TY {h : Nat} {r : Rq} (hf : FitsW h r) (t : By) : nQ h (FW h r ++ t) = some (r, t) := by
 unfold nQ FW
 simp only [List.append_assoc]
 rw [vR hf.name.1 hf.name.2]; simp only
 rw [vR hf.key.1 hf.key.2]; simp only
 rw [vR hf.last.1 hf.last.2]; simp only
 rw [vR hf.value.1 hf.value.2]
theorem RJ {b : By} {p : By × By} (h : iQ b = some p) : b = dF p.1 ++ p.2 ∧ p.1.length < 256 := by
 cases b with
 | nil => cases h
 | cons x b =>
  rw [qP] at h
  by_cases hl : b.length < x.toNat
  ·rw [if_pos hl] at h; cases h
  ·rw [if_neg hl] at h
   cases h
   have hx := UInt8.toNat_lt x
   have e : (b.take x.toNat).length = x.toNat := by simp; omega
   unfold dF
   rw [e, OZ]
   exact ⟨by simp, hx⟩
theorem vS {c : Bool} {b : By} {p : By × By} (h : xL c b = some p) : b = xM c p.1 ++ p.2 ∧ p.1.length < 256 ∧ (c = false → p.1 = []) := by
 unfold xL xM at *
 cases c with
 | true => obtain ⟨h1, h2⟩ := RJ h; exact ⟨h1, h2, fun k => by cases k⟩
 | false => cases h; exact ⟨rfl, by simp, fun _ => rfl⟩
theorem TZ {h : Nat} {b : By} {p : Rq × By} (e : nQ h b = some p) : b = FW h p.1 ++ p.2 ∧ FitsW h p.1 := by
 unfold nQ at e
 cases e0 : xL (h.testBit 0) b with
 | none => rw [e0] at e; cases e
 | some n =>
  rw [e0] at e; simp only at e
  cases e1 : xL (h.testBit 1) n.2 with
  | none => rw [e1] at e; cases e
  | some k =>
   rw [e1] at e; simp only at e
   cases e2 : xL (h.testBit 2) k.2 with
   | none => rw [e2] at e; cases e
   | some l =>
    rw [e2] at e; simp only at e
    cases e3 : xL (h.testBit 3) l.2 with
    | none => rw [e3] at e; cases e
    | some v =>
     rw [e3] at e; simp only at e
     cases e
     obtain ⟨i0, j0⟩ := vS e0
     obtain ⟨i1, j1⟩ := vS e1
     obtain ⟨i2, j2⟩ := vS e2
     obtain ⟨i3, j3⟩ := vS e3
     refine ⟨?_, j0, j1, j2, j3⟩
     unfold FW
     simp only [List.append_assoc]
     rw [← i3, ← i2, ← i1]
     exact i0

structure Cm where
  turn : Nat
  writes : List Wr
def oN (f : aP) : List Cm → Option aP
  | [] => some f
  | c :: cs => match gJ f c.writes with
    | some g => oN g cs
    | none => none
def oO (cs : List Cm) : Nat := (cs.map fun c => c.writes.length).sum
structure CmOk (c : Cm) : Prop where
  turn : 1 ≤ c.turn ∧ c.turn ≤ 1048576
  some : 1 ≤ c.writes.length ∧ c.writes.length ≤ 10
  ok : ∀ w ∈ c.writes, WrOk w
structure HistOk (m : Nat) (cs : List Cm) : Prop where
  turn : ∀ (i : Nat) (h : i < cs.length), cs[i].turn = i + 1
  ok : ∀ c ∈ cs, CmOk c
  size : oO cs ≤ m
  fits : ∃ f, oN [] cs = some f
theorem qQ (f : aP) (a b : List Cm) : oN f (a ++ b) = match oN f a with | some g => oN g b | none => none := by
 induction a generalizing f with
 | nil => rfl
 | cons c a ih =>
  simp only [List.cons_append, oN]
  cases gJ f c.writes with
  | none => rfl
  | some g => exact ih g
theorem nA (a b : List Cm) : oO (a ++ b) = oO a + oO b := by simp [oO]
theorem IS : ∀ {cs : List Cm} {m : Nat} {f g : aP}, ForestOk m f → (∀ c ∈ cs, CmOk c) → oN f cs = some g → ForestOk (m + oO cs) g
  | [], m, f, g, hf, _, h => by cases h; exact hf
  | c :: cs, m, f, g, hf, hc, h => by
    unfold oN at h
    split at h
    · rename_i f1 e
      have := IS (EA hf (hc c (by simp)).ok e) (fun x hx => hc x (by simp [hx])) h
      refine this.mono ?_
      simp [oO]; omega
    · cases h
def gK (cs : List Cm) (k : Nat) : aP := (oN [] (cs.take k)).getD []
theorem nR {m : Nat} {cs : List Cm} (h : HistOk m cs) (k : Nat) : oN [] (cs.take k) = some (gK cs k) := by
 obtain ⟨f, hf⟩ := h.fits
 rw [← List.take_append_drop k cs, qQ] at hf
 unfold gK
 cases e : oN [] (cs.take k) with
 | none => rw [e] at hf; cases hf
 | some g => rfl
theorem UA {m : Nat} {cs : List Cm} (h : HistOk m cs) (k : Nat) : ForestOk m (gK cs k) := by
 have := IS (ForestOk.nil 0) (fun c hc => h.ok c (List.mem_of_mem_take hc)) (nR h k)
 refine this.mono ?_
 have h2 := h.size
 rw [← List.take_append_drop k cs, nA] at h2
 omega
theorem MR {m : Nat} {cs : List Cm} (h : HistOk m cs) {k : Nat} (hk : k < cs.length) : gJ (gK cs k) cs[k].writes = some (gK cs (k + 1)) := by
 have h1 := nR h (k + 1)
 rw [List.take_succ_eq_append_getElem hk, qQ, nR h k] at h1
 simp only [oN] at h1
 cases e : gJ (gK cs k) cs[k].writes with
 | none => rw [e] at h1; cases h1
 | some g => rw [e] at h1; simpa using h1
theorem HistOk.take {m : Nat} {cs : List Cm} (h : HistOk m cs) (k : Nat) : HistOk m (cs.take k) := by
 refine ⟨fun i hi => by rw [List.getElem_take]; exact h.turn i _, fun c hc => h.ok c (List.mem_of_mem_take hc), ?_, ⟨_, nR h k⟩⟩
 have h2 := h.size
 rw [← List.take_append_drop k cs, nA] at h2
 omega
theorem AQ {cs : List Cm} {k n : Nat} (h : n ≤ k) : gK (cs.take k) n = gK cs n := by
 unfold gK; rw [List.take_take, Nat.min_eq_left h]
theorem HistOk.nil (m : Nat) : HistOk m [] := ⟨by simp, by simp, by simp [oO], ⟨[], rfl⟩⟩
theorem HistOk.snoc {m n : Nat} {cs : List Cm} (h : HistOk m cs) {ws : List Wr} (hw : ∀ w ∈ ws, WrOk w) (h1 : 1 ≤ ws.length) (h2 : ws.length ≤ 10) (hm : m + ws.length ≤ n) (hl : cs.length < 1048576) {g : aP} (hg : gJ (gK cs cs.length) ws = some g) :
    HistOk n (cs ++ [⟨cs.length + 1, ws⟩]) ∧ gK (cs ++ [⟨cs.length + 1, ws⟩]) (cs.length + 1) = g := by
 have hs := nR h cs.length
 rw [List.take_length] at hs
 have hf : oN [] (cs ++ [⟨cs.length + 1, ws⟩]) = some g := by rw [qQ, hs]; simp [oN, hg]
 refine ⟨⟨fun i hi => ?_, fun c hc => ?_, ?_, ⟨g, hf⟩⟩, ?_⟩
 ·rw [List.getElem_append]
  split
  ·rename_i h'; exact h.turn i h'
  ·have : i = cs.length := by simp at hi; omega
   subst this; simp
 ·rcases List.mem_append.1 hc with hc | hc
  ·exact h.ok c hc
  ·rw [List.mem_singleton.1 hc]; exact ⟨⟨by simp, by simp; omega⟩, ⟨h1, h2⟩, hw⟩
 ·rw [nA]; have := h.size; simp [oO] at *; omega
 ·unfold gK
  rw [List.take_of_length_le (by simp), hf]; rfl
def jR (start : Int) (rs : List Rd) (cs : List Cm) : Bool := cs.any fun c => decide (start < c.turn) && c.writes.any fun w => rs.any fun r => dM r w
theorem IT {m : Nat} {cs : List Cm} (h : HistOk m cs) {start : Nat} {rs : List Rd} (hc : jR start rs cs = false) {r : Rd} (hr : r ∈ rs) (k : By) (hk : dM r ⟨r.name, k, false, []⟩ = true) :
    ∀ n, start ≤ n → n ≤ cs.length → jV (gK cs n) r.name k = jV (gK cs start) r.name k := by
 intro n h1 h2
 induction n with
 | zero => rw [show start = 0 from by omega]
 | succ n ih =>
  by_cases e : start = n + 1
  ·rw [e]
  ·have hn : n < cs.length := h2
   rw [yE (UA h n) (h.ok _ (List.getElem_mem hn)).ok (MR h hn), ← ih (by omega) (by omega)]
   cases hl : AP cs[n].writes r.name k with
   | none => rfl
   | some w =>
    exfalso
    unfold AP at hl
    have hw1 := List.mem_of_find?_eq_some hl
    have hw2 := List.find?_some hl
    simp only [Bool.and_eq_true, beq_iff_eq] at hw2
    rw [List.mem_reverse] at hw1
    have : jR start rs cs = true := by
     unfold jR
     rw [List.any_eq_true]
     refine ⟨cs[n], List.getElem_mem hn, ?_⟩
     rw [Bool.and_eq_true, List.any_eq_true]
     refine ⟨by rw [h.turn n hn]; simp; omega, w, hw1, ?_⟩
     rw [List.any_eq_true]
     refine ⟨r, hr, ?_⟩
     unfold dM at hk ⊢
     rw [hw2.1, hw2.2]
     exact hk
    rw [hc] at this; cases this
theorem EE {m : Nat} {cs : List Cm} (h : HistOk m cs) {start : Nat} {rs : List Rd} (hc : jR start rs cs = false) {r : Rd} (hr : r ∈ rs) (hw : r.wide = false) {n : Nat} (h1 : start ≤ n) (h2 : n ≤ cs.length) :
    jV (gK cs n) r.name r.key = jV (gK cs start) r.name r.key :=
  IT h hc hr r.key (by simp [dM, hw]) n h1 h2
end Go.Proofs.YtilgpdpooildcaaGreatDoor
