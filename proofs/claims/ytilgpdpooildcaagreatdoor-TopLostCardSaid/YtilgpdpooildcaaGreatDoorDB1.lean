/- Rules, plain laws and walks: A B M1 R G B2 J P1 D0 P2 P3 P4 P5 P6 P7 P8 P9 S1 -/
import Derived.Test.YtilgpdpooildcaaGreatDoorRows
import Derived.WalkKit
import Derived.WalkSpells
import Derived.WalkLawsBesides
import Derived.Deep.QuietTactic
import Derived.BigQuiet
import Derived.ProofKit
import Derived.OpenShut
import Derived.ShutString
import Derived.ChangeOld
import Derived.Deep.Slices
import Derived.StillTail
import Derived.JoinedOf
import Derived.Deep.AppendLies
namespace Go.Proofs.YtilgpdpooildcaaGreatDoor
set_option maxHeartbeats 8000000
open Go.RowKit

theorem hid {p : Prop} (h : p) : Hid p := h

abbrev Fz := Nat → Option Obj
def Sat (w : World) (F : Fz) : Prop := ∀ b o, F b = some o → w.heap[b]? = some o
def bI (F : Fz) (b off : Nat) : Option Value :=
  match F b with
  | some (.cells c _ _) => c[off]?
  | _ => none
theorem Sat.lt {w : World} {F : Fz} (h : Sat w F) {b : Nat} {o : Obj} (hb : F b = some o) : b < w.heap.size :=
  (Array.getElem?_eq_some_iff.1 (h b o hb)).1
theorem Sat.out {w : World} {F : Fz} (h : Sat w F) {b : Nat} (hb : w.heap.size ≤ b) : F b = none := by
 cases hc : F b with
 | none => rfl
 | some o => have := h.lt hc; omega
theorem Sat.cell {w : World} {F : Fz} (h : Sat w F) {b o : Nat} {v : Value} (hc : bI F b o = some v) : w.cell? ⟨b, o, none⟩ = some v := by
 unfold bI at hc
 split at hc
 ·rename_i c t fr hb
  simp [World.cell?, h b _ hb, hc]
 ·cases hc
theorem Sat.below {w w' : World} {F : Fz} (h : Sat w F) (hb : Below w.heap.size w w') : Sat w' F := fun b o hf => by
  rw [hb.block b (h.lt hf)]; exact h b o hf
theorem Sat.alloc {w : World} {F : Fz} (h : Sat w F) (o : Obj) : Sat (w.alloc o) F := fun b x hf => by
  rw [Below.heap_alloc w o b (h.lt hf)]; exact h b x hf
theorem Sat.drew {w : World} {F : Fz} (h : Sat w F) : Sat w.drew F := h
theorem Sat.setCell {w : World} {F : Fz} (h : Sat w F) {a : Addr} (ha : F a.block = none) (u : Value) : Sat (w.setCell a u) F := fun b x hf => by
  rw [Below.heap_setCell w a u b (fun e => by rw [e, ha] at hf; cases hf)]; exact h b x hf
theorem Sat.grown {w w' : World} {F : Fz} (h : Sat w F) {row : Option Nat} (hg : w.grownBy w' row) (hr : ∀ k, row = some k → F k = none) : Sat w' F := fun b x hf => by
  rw [hg.block b (h.lt hf) (fun e => by rw [hr b e.symm] at hf; cases hf)]; exact h b x hf
def whole (w : World) : Fz := fun b => w.heap[b]?
theorem Sat.whole (w : World) : Sat w (whole w) := fun _ _ h => h
def addF (F : Fz) (w : World) (g : Nat) : Fz := fun b => match F b with | some o => some o | none => if b = g then w.heap[b]? else none
theorem Sat.addF {w : World} {F : Fz} (h : Sat w F) (g : Nat) : Sat w (addF F w g) := fun b o hb => by
  unfold Proofs.YtilgpdpooildcaaGreatDoor.addF at hb
  split at hb
  · rename_i x hx; cases hb; exact h b _ hx
  · split at hb
    · exact hb
    · cases hb
theorem uH (F : Fz) (w : World) (g b : Nat) (o : Obj) (h : F b = some o) : addF F w g b = some o := by simp [addF, h]
theorem qX {F : Fz} {w : World} {g b : Nat} (h : b ≠ g) : addF F w g b = F b := by
 unfold addF
 cases F b <;> simp [h]

structure Gr (w : World) (F : Fz) (w' : World) (F' : Fz) : Prop where
  below : Below w.heap.size w w'
  old : ∀ b, b < w.heap.size → F' b = F b
  sat : Sat w' F'
theorem Gr.le {w w' : World} {F F' : Fz} (h : Gr w F w' F') (hs : Sat w F) : ∀ b o, F b = some o → F' b = some o := fun b o hb => by
  rw [h.old b (hs.lt hb)]; exact hb
theorem Gr.refl {w : World} {F : Fz} (hs : Sat w F) : Gr w F w F := ⟨Below.refl _ _, fun _ _ => rfl, hs⟩
theorem Gr.trans {w w1 w2 : World} {F F1 F2 : Fz} (h : Gr w F w1 F1) (k : Gr w1 F1 w2 F2) : Gr w F w2 F2 :=
  ⟨h.below.trans (k.below.mono h.below.size), fun b hb => (k.old b (Nat.lt_of_lt_of_le hb h.below.size)).trans (h.old b hb), k.sat⟩
theorem Gr.out {w w' : World} {F F' : Fz} (h : Gr w F w' F') {g : Nat} (hg : g < w.heap.size) (hn : F g = none) : F' g = none := by rw [h.old g hg]; exact hn
theorem Gr.of_below {w w' : World} {F : Fz} (hs : Sat w F) (h : Below w.heap.size w w') : Gr w F w' F := ⟨h, fun _ _ => rfl, hs.below h⟩
theorem Gr.add {w w' : World} {F F' : Fz} (h : Gr w F w' F') {g : Nat} (hg : w.heap.size ≤ g) : Gr w F w' (addF F' w' g) :=
  ⟨h.below, fun b hb => (qX (by omega)).trans (h.old b hb), h.sat.addF g⟩
theorem Gr.set {w w1 : World} {F F1 : Fz} (h : Gr w F w1 F1) {a : Addr} (ha : w.heap.size ≤ a.block) (hn : F1 a.block = none) (u : Value) : Gr w F (w1.setCell a u) F1 :=
  ⟨h.below.setCell ha u, h.old, h.sat.setCell hn u⟩
theorem Gr.new {w w1 : World} {F F1 : Fz} (h : Gr w F w1 F1) (o : Obj) : Gr w F (w1.alloc o) F1 :=
  ⟨h.below.alloc h.below.size o, h.old, h.sat.alloc o⟩
theorem Gr.drew {w w1 : World} {F F1 : Fz} (h : Gr w F w1 F1) : Gr w F w1.drew F1 := ⟨h.below.drew, h.old, h.sat⟩
theorem GE (X : World) (o : Obj) {n : Nat} (h : n = X.heap.size) : (X.alloc o).heap[n]? = some o := by subst h; exact heap_alloc_new X o
theorem GF {w : World} {n : Nat} {c : Array Value} {T : TypeId} {fr : Nat × Nat} (h : w.heap[n]? = some (.cells c T fr)) (j : Nat) (u : Value) : (w.setCell ⟨n, j, none⟩ u).heap[n]? = some (.cells (c.setIfInBounds j u) T fr) := by
 simp [World.setCell, Array.getElem?_modify, h]
theorem BL {w : World} {n : Nat} {p : Obj} (h : w.heap[n]? = some p) {a : Addr} (ha : a.block ≠ n) (u : Value) : (w.setCell a u).heap[n]? = some p := by
 rw [Below.heap_setCell w a u n (fun e => ha e.symm)]; exact h
theorem OR {w w' : World} (hb : Below w.heap.size w w') {n : Nat} {p : Obj} (h : w.heap[n]? = some p) : w'.heap[n]? = some p := by
 rw [hb.block n (Array.getElem?_eq_some_iff.1 h).1]; exact h
def Le (F F' : Fz) : Prop := ∀ b o, F b = some o → F' b = some o
theorem Le.refl (F : Fz) : Le F F := fun _ _ h => h
theorem Le.trans {F G H : Fz} (h : Le F G) (k : Le G H) : Le F H := fun b o hb => k b o (h b o hb)
theorem Le.cell {F F' : Fz} (h : Le F F') {b o : Nat} {v : Value} (hc : bI F b o = some v) : bI F' b o = some v := by
 unfold bI at *
 cases hb : F b with
 | none => simp [hb] at hc
 | some x => rw [h b x hb]; rw [hb] at hc; exact hc
theorem Gr.le' {w w' : World} {F F' : Fz} (h : Gr w F w' F') (hs : Sat w F) : Le F F' := h.le hs
theorem Sat.le {w : World} {F F' : Fz} (h : Sat w F') (hl : Le F F') : Sat w F := fun b o hb => h b o (hl b o hb)

def Rw (F : Fz) (v : Value) (n : Nat) (cs : List Value) : Prop :=
  ∃ a c, v = .slice a n c ∧ n ≤ c ∧ c ≤ maxLen ∧ (a = none → n = 0 ∧ c = 0) ∧
    (cs = [] ∨ ∃ b o, a = some ⟨b, o, none⟩ ∧ ∀ j u, cs[j]? = some u → bI F b (o + j) = some u)
theorem Rw.mono {F F' : Fz} {v : Value} {n : Nat} {cs : List Value} (h : Rw F v n cs) (hl : Le F F') : Rw F' v n cs := by
 obtain ⟨a, c, h1, h2, h3, h4, h5⟩ := h
 refine ⟨a, c, h1, h2, h3, h4, h5.imp id fun ⟨b, o, h6, h7⟩ => ⟨b, o, h6, fun j u hu => hl.cell (h7 j u hu)⟩⟩
theorem Rw.nil (F : Fz) : Rw F (.slice none 0 0) 0 [] := ⟨none, 0, rfl, Nat.le_refl _, Nat.zero_le _, fun _ => ⟨rfl, rfl⟩, .inl rfl⟩
theorem Rw.empty (F : Fz) (a : Addr) (c : Nat) (hc : c ≤ maxLen) : Rw F (.slice (some a) 0 c) 0 [] := ⟨some a, c, rfl, Nat.zero_le _, hc, (fun h => nomatch h), .inl rfl⟩
theorem Rw.shape {F : Fz} {v : Value} {n : Nat} {cs : List Value} (h : Rw F v n cs) : ∃ a c, v = .slice a n c ∧ n ≤ c ∧ c ≤ maxLen := by
 obtain ⟨a, c, h1, h2, h3, _⟩ := h
 exact ⟨a, c, h1, h2, h3⟩
theorem Rw.addr {F : Fz} {a : Option Addr} {m n c : Nat} {cs : List Value} (h : Rw F (.slice a m c) n cs) (hn : cs ≠ []) :
    ∃ b o, a = some ⟨b, o, none⟩ ∧ ∀ j u, cs[j]? = some u → bI F b (o + j) = some u := by
 obtain ⟨a', c', h1, _, _, _, h5⟩ := h
 cases h1
 exact h5.resolve_left hn
theorem Rw.of_cells {F : Fz} {b o n c : Nat} {cs : List Value} (h1 : n ≤ c) (h2 : c ≤ maxLen) (h : ∀ j u, cs[j]? = some u → bI F b (o + j) = some u) : Rw F (.slice (some ⟨b, o, none⟩) n c) n cs :=
  ⟨_, c, rfl, h1, h2, (fun h => nomatch h), .inr ⟨b, o, rfl, h⟩⟩
theorem Rw.of_owns {w : World} {F : Fz} {base e size : Nat} {v : Value} {n : Nat} {xs : List Value} (h : w.ownsRow base e size v n xs) (hs : Sat w F) :
    ∃ g, Rw (addF F w g) v n xs ∧ (v = .slice none 0 0 ∨ base ≤ g) := by
 rcases h with ⟨hl, ⟨rfl, rfl⟩ | ⟨g, cap, cur, rfl, hb, hg, h1, h2, h3, h4⟩⟩
 ·have : xs = [] := List.eq_nil_of_length_eq_zero (by simpa using hl)
  subst this
  exact ⟨w.heap.size, Rw.nil _, .inl rfl⟩
 ·refine ⟨g, Rw.of_cells h1 h2 fun j u hu => ?_, .inr hb⟩
  have hb' : addF F w g g = some (.cells cur e (0, 0)) := by
   unfold addF
   cases hf : F g with
   | none => simp [hg]
   | some o => have := hs g o hf; rw [hg] at this; simp at this; simp [← this]
  rw [← h4, List.getElem?_take] at hu
  split at hu
  ·unfold bI; rw [hb', Nat.zero_add]; simpa using hu
  ·cases hu
theorem Rw.takeN {F : Fz} {a : Option Addr} {n c k : Nat} {cs : List Value} (h : Rw F (.slice a n c) n cs) (hk : k ≤ n) (size : Nat) : Rw F (.slice a k c) k (cs.take (k * size)) := by
 obtain ⟨a', c', h1, h2, h3, h4, h5⟩ := h
 cases h1
 refine ⟨a, c, rfl, by omega, h3, fun h => ⟨by have := h4 h; omega, (h4 h).2⟩, ?_⟩
 rcases h5 with rfl | ⟨b, o, h6, h7⟩
 ·exact .inl (by simp)
 ·refine .inr ⟨b, o, h6, fun j u hu => h7 j u ?_⟩
  rw [List.getElem?_take] at hu
  split at hu
  ·exact hu
  ·cases hu
def bv (b : UInt8) : Value := .int .u8 (b.toNat : Int)
def Bs (F : Fz) (v : Value) (l : List UInt8) : Prop := Rw F v l.length (l.map bv)
theorem Bs.mono {F F' : Fz} {v : Value} {l : List UInt8} (h : Bs F v l) (hl : Le F F') : Bs F' v l := Rw.mono h hl
theorem Bs.nil (F : Fz) : Bs F (.slice none 0 0) [] := Rw.nil F
theorem Bs.shape {F : Fz} {v : Value} {l : List UInt8} (h : Bs F v l) : ∃ a c, v = .slice a l.length c ∧ l.length ≤ c ∧ c ≤ maxLen := Rw.shape h
theorem Bs.addr {F : Fz} {a : Option Addr} {m c : Nat} {l : List UInt8} (h : Bs F (.slice a m c) l) (hn : 0 < m) :
    ∃ b o, a = some ⟨b, o, none⟩ ∧ ∀ j (hj : j < l.length), bI F b (o + j) = some (.int .u8 (l[j].toNat : Int)) := by
 have hm : m = l.length := by obtain ⟨a', c', h1, _⟩ := h; cases h1; rfl
 obtain ⟨b, o, h1, h2⟩ := Rw.addr h (by intro e; have := congrArg List.length e; simp at this; rw [hm, this] at hn; simp at hn)
 exact ⟨b, o, h1, fun j hj => h2 j _ (by simp [bv, hj])⟩
theorem Bs.len {F : Fz} {a : Option Addr} {m c : Nat} {l : List UInt8} (h : Bs F (.slice a m c) l) : m = l.length := by
 obtain ⟨a', c', h1, _⟩ := h.shape
 cases h1; rfl
theorem Bs.takeN {F : Fz} {a : Option Addr} {n c k : Nat} {l : List UInt8} (h : Bs F (.slice a n c) l) (hk : k ≤ l.length) : Rw F (.slice a k c) k ((l.take k).map bv) := by
 obtain rfl := h.len
 have := Rw.takeN h hk 1
 rw [Nat.mul_one, ← List.map_take] at this
 exact this
def dI (w : World) (F : Fz) (R : Fz → Value → Prop) (e : Ending) (w' : World) : Prop := ∃ v F', e = .returned v ∧ Gr w F w' F' ∧ R F' v
def cS (w : World) (v : Value) (e : Ending) (w' : World) : Prop := e = .returned v ∧ Below w.heap.size w w'

theorem Gr.row {w w' : World} {F : Fz} {e size : Nat} {v : Value} {n : Nat} {xs : List Value} (hs : Sat w F) (hb : Below w.heap.size w w') (h : w'.ownsRow w.heap.size e size v n xs) :
    ∃ F', Gr w F w' F' ∧ Rw F' v n xs := by
 obtain ⟨g, h1, h2⟩ := Rw.of_owns h (hs.below hb)
 rcases h2 with rfl | h2
 ·obtain ⟨a', c', e1, e2, e3, e4, e5⟩ := h1
  cases e1
  rcases e5 with rfl | ⟨_, _, e6, _⟩
  ·exact ⟨F, Gr.of_below hs hb, Rw.nil F⟩
  ·cases e6
 ·exact ⟨_, (Gr.of_below hs hb).add h2, h1⟩
section
variable {P : Program} {w : World} {F : Fz}
theorem yY (base : Nat) (t ty e : TypeId) (i : TypeInfo) (z : Value) (size bytes : Nat) (ht : P.underlying t = some (.slice e)) (hi : P.info? e = some i) (hz : i.zero = some z)
    (hsize : i.size = size) (hby : i.bytes = bytes) (hzs : z.cells.size = size) (hsz : 0 < size)
    {v : Value} {n : Nat} {xs : List Value} (hown : w.ownsRow base e size v n xs) {u : Value} {m : Nat} {news : List Value} (hs : Sat w F) (hr : Rw F u m news)
    (hl : news.length = m * size) (h1 : ∀ u ∈ news, u.oneCell' = true)
    (a0 : n + m ≤ maxLen) (hbytes : (n + m) * bytes ≤ 140737488355328) (hbase : base ≤ w.heap.size) :
    ∃ v' w', (Builtin.append_ #[t, t] ty #[v, u]).run P w = .ok v' w' ∧ w'.ownsRow base e size v' (n + m) (xs ++ news) ∧ w.grownBy w' v.ownBlock ∧
      (v' = .slice none 0 0 ↔ v = .slice none 0 0 ∧ m = 0) := by
 obtain ⟨a, c, rfl, h2, h3, h4, h5⟩ := hr
 cases a with
 | none =>
  obtain ⟨rfl, rfl⟩ := h4 rfl
  obtain rfl : news = [] := h5.resolve_right (by rintro ⟨_, _, e, _⟩; cases e)
  have hrun := run_append_owned_none (P := P) w base t ty e i size ht hi v n xs hown
  exact ⟨v, w, by simpa using hrun, by simpa using hown, World.grownBy.refl _ _, by simp⟩
 | some a =>
  refine run_append_own (P := P) w base t ty e i z size bytes ht hi hz hsize hby hzs hsz v n xs hown a m c news hl (fun j u hu => ?_) h1 a0 hbytes hbase
  rcases h5 with rfl | ⟨b, o, h6, h7⟩
  ·simp at hu
  ·cases h6
   have : (⟨b, o, none⟩ : Addr).add j = ⟨b, o + j, none⟩ := by unfold Addr.add; split <;> simp_all
   rw [this]; exact hs.cell (h7 j u hu)
theorem nM {ops : Array Oper} {rest : List Oper} {o : Oper} {a : Act} {Q : Exit → Act → World → Prop} (hgd : o.guard = none) (s x : Operand) (t : TypeId)
    (ho : o.op = .call { callee := .builtin .append, args := #[s, x], argTypes := #[t, t] })
    (base : Nat) (e : TypeId) (i : TypeInfo) (z : Value) (size bytes : Nat) (ht : P.underlying t = some (.slice e)) (hi : P.info? e = some i) (hz : i.zero = some z)
    (hsize : i.size = size) (hby : i.bytes = bytes) (hzs : z.cells.size = size) (hsz : 0 < size)
    {v : Value} {n : Nat} {xs : List Value} (hv : a.eval s = v) (hown : w.ownsRow base e size v n xs) {u : Value} {m : Nat} {news : List Value} (hu : a.eval x = u) (hs : Sat w F) (hr : Rw F u m news)
    (hl : news.length = m * size) (h1 : ∀ u ∈ news, u.oneCell' = true)
    (a0 : n + m ≤ maxLen) (hbytes : (n + m) * bytes ≤ 140737488355328) (hbase : base ≤ w.heap.size)
    (h : ∀ v' w', w'.ownsRow base e size v' (n + m) (xs ++ news) → w.grownBy w' v.ownBlock → (v' = .slice none 0 0 ↔ v = .slice none 0 0 ∧ m = 0) → wpList P ops Q rest (a.put o.dst v') w') :
    wpList P ops Q (o :: rest) a w := by
 refine wpList_plain hgd fun K hK => ?_
 obtain ⟨v', w', hrun, h2, h3, h4⟩ := yY (P := P) base t o.type e i z size bytes ht hi hz hsize hby hzs hsz hown hs hr hl h1 a0 hbytes hbase
 unfold Oper.wp execOp
 simp only [ho, resolve, invoke, builtin, Sem.run_bind, Sem.run_pure, Result.andThen_ok, List.map_toArray, List.map_cons, List.map_nil, hv, hu, hrun]
 exact hK _ _ (h v' w' h2 h3 h4)
theorem yZ (l : List UInt8) : ∀ u ∈ l.map bv, u.oneCell' = true := by
 intro u hu
 obtain ⟨_, _, rfl⟩ := List.mem_map.1 hu
 rfl
theorem pF {src e dst : TypeId} (hsrc : P.underlying src = some (.slice e)) (he : P.underlying e = some (.int .u8)) (hd : P.underlying dst = some .string)
    {v : Value} {l : List UInt8} (hs : Sat w F) (h : Bs F v l) : (convert src dst v).run P w = .ok (.string ⟨l.toArray⟩) w := by
 obtain ⟨a, c, rfl, h2, h3, h4', h5⟩ := h
 by_cases hl : l = []
 ·subst hl
  cases a with
  | none => exact run_convert_bytes_nil w src e hsrc he _ _ dst hd
  | some a =>
   show (convert src dst (.slice (some a) 0 c)).run P w = _
   rw [run_convert_bytes_string w src dst e _ 0 c hsrc he hd, run_bytesToString w a 0 c [] (run_loadCells_list (P := P) w a [] (by simp))]
   rfl
 ·obtain ⟨b, o, rfl, h4⟩ := h5.resolve_left (by simpa using hl)
  have hh := run_convert_bytes_arg (P := P) w src e hsrc he b o l.length c (l.map fun x => (x.toNat : Int)) (by simp) (fun i hi => by
   rw [hs.cell (h4 i (.int .u8 (l[i].toNat : Int)) (by simp [bv, hi]))]
   simp [List.getD, hi]) dst hd
  rw [hh]
  congr 2
  unfold strOfNums
  simp only [List.map_map]
  have e : ((fun n : Int => UInt8.ofNat n.toNat) ∘ fun x : UInt8 => (x.toNat : Int)) = id := by funext x; simp
  rw [e, List.map_id]
end
set_option maxRecDepth 100000

theorem pG : (Tryz.prog.info? 5).map (fun i => (i.zero, i.size, i.bytes)) = some (some (.int .u8 0), 1, 1) := by kernel_rfl

def bX (n : Nat) : Int := if 1 ≤ n ∧ n ≤ 16 then 0 else 1
theorem iV {n : Nat} (h1 : 1 ≤ n) (h2 : n ≤ 16) : bX n = 0 := by unfold bX; rw [if_pos ⟨h1, h2⟩]
theorem mO {n : Nat} (h : ¬ (1 ≤ n ∧ n ≤ 16)) : bX n = 1 := by unfold bX; rw [if_neg h]
theorem iB (w : World) (a : Option Addr) (n c : Nat) (_hlc : n ≤ c) (_hcm : c ≤ maxLen) :
    Calls Tryz.prog 55 #[.slice a n c] w fun e w' => e = .returned (.int .i64 (bX n)) ∧ w' = w := by
 by_cases h : 1 ≤ n ∧ n ≤ 16
 ·rw [iV h.1 h.2]
  obtain ⟨h1, h2⟩ := h
  go_enter Tryz.func55, Tryz.ntmps55
  go_wp2
  go_ret
  exact ⟨rfl, rfl⟩
 ·rw [mO h]
  by_cases h1 : n < 1
  ·clear h
   go_enter Tryz.func55, Tryz.ntmps55
   go_wp2
   go_ret
   exact ⟨rfl, rfl⟩
  ·have h2 : 16 < n := by omega
   clear h
   go_enter Tryz.func55, Tryz.ntmps55
   go_wp2
   go_ret
   exact ⟨rfl, rfl⟩
theorem jM (F : Fz) (w : World) (v : Value) (l : List UInt8) (hv : Bs F v l) :
    Calls Tryz.prog 55 #[v] w fun e w' => e = .returned (.int .i64 (bX l.length)) ∧ w' = w := by
 obtain ⟨a, c, rfl, hlc, hcm⟩ := hv.shape
 exact iB w a _ c hlc hcm
def OS (l : List UInt8) (i : Nat) : Bool :=
  if i / 9 < l.length then (if i % 9 = 0 then true else (l.getD (i / 9) 0).toNat.testBit (8 - i % 9)) else false
def GG (a b : List UInt8) : Nat → Nat → Int
  | 0, _ => -1
  | n + 1, i => if OS a i = OS b i then GG a b n (i + 1) else i
def Bf (a b : List UInt8) : Int := GG a b 145 0
def pick (n m : Int) : Int := (if n < 0 then -(n + 1) else n) % m
theorem VJ (n m : Int) (h : 1 ≤ m) : 0 ≤ pick n m ∧ pick n m < m := by
 unfold pick
 exact ⟨Int.emod_nonneg _ (by omega), Int.emod_lt_of_pos _ (by omega)⟩
theorem GH (n m : Int) (w : World) (h1 : -9223372036854775808 ≤ n) (h2 : n ≤ 9223372036854775807) (hm : 1 ≤ m) (hm2 : m ≤ 10000000) :
    Calls Tryz.prog 30 #[.int .i64 n, .int .i64 m] w fun e w' => e = .returned (.int .i64 (pick n m)) ∧ w' = w := by
 by_cases h : n < 0
 ·have hp : Hid (pick n m = -((n + 1).tmod m)) := by unfold Hid pick; rw [if_pos h, ← Int.neg_tmod, Int.tmod_eq_emod_of_nonneg (by omega)]
  go_enter Tryz.func30, Tryz.ntmps30
  go_wp2
  go_ret
  refine ⟨?_, rfl⟩
  rw [hp.out]
  rfl
 ·have hp : Hid (pick n m = n % m) := by unfold Hid pick; rw [if_neg h]
  go_enter Tryz.func30, Tryz.ntmps30
  go_wp2
  go_ret
  exact ⟨by rw [hp.out]; rfl, rfl⟩

theorem iJ : ∀ a : List UInt8, Op.bytesLess a a = false
  | [] => rfl
  | x :: a => by simp [Op.bytesLess, iJ a]
theorem pH : ∀ a b : List UInt8, Op.bytesLess a b = true → Op.bytesLess b a = false
  | _, [], h => by cases ‹List UInt8› <;> cases h
  | [], _ :: _, _ => rfl
  | x :: a, y :: b, h => by
    simp only [Op.bytesLess, Bool.or_eq_true, decide_eq_true_eq, Bool.and_eq_true, beq_iff_eq] at h
    simp only [Op.bytesLess, Bool.or_eq_false_iff, decide_eq_false_iff_not, Bool.and_eq_false_iff]
    rcases h with h | ⟨rfl, h⟩
    · refine ⟨fun k => ?_, .inl ?_⟩
      · have h1 := UInt8.lt_iff_toNat_lt.1 h; have h2 := UInt8.lt_iff_toNat_lt.1 k; omega
      · rw [beq_eq_false_iff_ne]
        rintro rfl
        have h1 := UInt8.lt_iff_toNat_lt.1 h; omega
    · exact ⟨fun k => by have h2 := UInt8.lt_iff_toNat_lt.1 k; omega, .inr (pH a b h)⟩
open Go.RowKit Go.ChangeShapes Go.WideShapes Go.ChangeAt

def AllR {α : Type} (R : List Value → α → Prop) : List (List Value) → List α → Prop
  | [], [] => True
  | x :: xs, p :: ps => R x p ∧ AllR R xs ps
  | _, _ => False
theorem AllR.len {α : Type} {R : List Value → α → Prop} : ∀ {xs : List (List Value)} {ps : List α}, AllR R xs ps → xs.length = ps.length
  | [], [], _ => rfl
  | _ :: xs, _ :: ps, h => by simp [AllR.len (xs := xs) (ps := ps) h.2]
  | [], _ :: _, h => h.elim
  | _ :: _, [], h => h.elim
theorem AllR.imp {α : Type} {R S : List Value → α → Prop} (hi : ∀ x p, R x p → S x p) : ∀ {xs : List (List Value)} {ps : List α}, AllR R xs ps → AllR S xs ps
  | [], [], _ => trivial
  | _ :: xs, _ :: ps, h => ⟨hi _ _ h.1, AllR.imp hi (xs := xs) (ps := ps) h.2⟩
  | [], _ :: _, h => h.elim
  | _ :: _, [], h => h.elim
theorem AllR.get {α : Type} {R : List Value → α → Prop} : ∀ {xs : List (List Value)} {ps : List α}, AllR R xs ps → ∀ (i : Nat) (h1 : i < xs.length) (h2 : i < ps.length), R xs[i] ps[i]
  | _ :: _, _ :: _, h, 0, _, _ => h.1
  | _ :: xs, _ :: ps, h, i + 1, h1, h2 => AllR.get (xs := xs) (ps := ps) h.2 i (by simpa using h1) (by simpa using h2)
  | [], _, _, _, h1, _ => by simp at h1
theorem AllR.of_get {α : Type} {R : List Value → α → Prop} : ∀ {xs : List (List Value)} {ps : List α}, xs.length = ps.length → (∀ (i : Nat) (h1 : i < xs.length) (h2 : i < ps.length), R xs[i] ps[i]) → AllR R xs ps
  | [], [], _, _ => trivial
  | x :: xs, p :: ps, hl, h => ⟨h 0 (by simp) (by simp), AllR.of_get (by simpa using hl) fun i h1 h2 => h (i + 1) (by simpa using h1) (by simpa using h2)⟩
  | [], _ :: _, hl, _ => by simp at hl
  | _ :: _, [], hl, _ => by simp at hl
theorem AllR.append {α : Type} {R : List Value → α → Prop} : ∀ {xs : List (List Value)} {ps : List α} {ys : List (List Value)} {qs : List α}, AllR R xs ps → AllR R ys qs → AllR R (xs ++ ys) (ps ++ qs)
  | [], [], _, _, _, k => k
  | _ :: xs, _ :: ps, _, _, h, k => ⟨h.1, AllR.append (xs := xs) (ps := ps) h.2 k⟩
  | [], _ :: _, _, _, h, _ => h.elim
  | _ :: _, [], _, _, h, _ => h.elim
theorem AllR.take {α : Type} {R : List Value → α → Prop} : ∀ {xs : List (List Value)} {ps : List α}, AllR R xs ps → ∀ k, AllR R (xs.take k) (ps.take k)
  | [], [], _, k => by simp [AllR]
  | _ :: xs, _ :: ps, h, 0 => by simp [AllR]
  | _ :: xs, _ :: ps, h, k + 1 => ⟨h.1, AllR.take (xs := xs) (ps := ps) h.2 k⟩
  | [], _ :: _, h, _ => h.elim
  | _ :: _, [], h, _ => h.elim
theorem AllR.drop {α : Type} {R : List Value → α → Prop} : ∀ {xs : List (List Value)} {ps : List α}, AllR R xs ps → ∀ k, AllR R (xs.drop k) (ps.drop k)
  | [], [], _, k => by simp [AllR]
  | _ :: xs, _ :: ps, h, 0 => h
  | _ :: xs, _ :: ps, h, k + 1 => AllR.drop (xs := xs) (ps := ps) h.2 k
  | [], _ :: _, h, _ => h.elim
  | _ :: _, [], h, _ => h.elim
theorem mP : ∀ {el : List (List Value)} {k : Nat}, (∀ x ∈ el, x.length = k) → ∀ (i : Nat) (hi : i < el.length) (j : Nat), j < k → el.flatten[i * k + j]? = el[i][j]?
  | [], _, _, _, hi, _, _ => by simp at hi
  | x :: el, k, h, 0, _, j, hj => by
    have hx : x.length = k := h x (by simp)
    simp [List.getElem?_append, hx, hj]
  | x :: el, k, h, i + 1, hi, j, hj => by
    have hx : x.length = k := h x (by simp)
    have ih := mP (el := el) (k := k) (fun y hy => h y (by simp [hy])) i (by simpa using hi) j hj
    simp only [List.flatten_cons, List.getElem_cons_succ]
    rw [List.getElem?_append_right (by rw [hx, Nat.add_mul]; omega), hx, show (i + 1) * k + j - k = i * k + j from by rw [Nat.add_mul]; omega, ih]
theorem eV : ∀ {el : List (List Value)} {k : Nat}, (∀ x ∈ el, x.length = k) → el.flatten.length = el.length * k
  | [], _, _ => by simp
  | x :: el, k, h => by
    have ih := eV (el := el) (k := k) (fun y hy => h y (by simp [hy]))
    simp only [List.flatten_cons, List.length_append, List.length_cons, ih, h x (by simp), Nat.add_mul]
    omega
def Sl {α : Type} (k : Nat) (R : Fz → List Value → α → Prop) (F : Fz) (v : Value) (l : List α) : Prop :=
  ∃ el : List (List Value), Rw F v l.length el.flatten ∧ AllR (R F) el l ∧ ∀ x ∈ el, x.length = k
theorem Sl.mono {α : Type} {k : Nat} {R : Fz → List Value → α → Prop} (hR : ∀ F F' x p, Le F F' → R F x p → R F' x p) {F F' : Fz} {v : Value} {l : List α} (h : Sl k R F v l) (hl : Le F F') : Sl k R F' v l := by
 obtain ⟨el, h1, h2, h3⟩ := h
 exact ⟨el, h1.mono hl, h2.imp fun x p => hR F F' x p hl, h3⟩
theorem Sl.nil {α : Type} (k : Nat) (R : Fz → List Value → α → Prop) (F : Fz) : Sl k R F (.slice none 0 0) [] := ⟨[], Rw.nil F, trivial, by simp⟩
theorem Sl.shape {α : Type} {k : Nat} {R : Fz → List Value → α → Prop} {F : Fz} {v : Value} {l : List α} (h : Sl k R F v l) : ∃ a c, v = .slice a l.length c ∧ l.length ≤ c ∧ c ≤ maxLen := by
 obtain ⟨el, h1, _⟩ := h
 exact h1.shape
theorem Sl.at {α : Type} {k : Nat} {R : Fz → List Value → α → Prop} {F : Fz} {a : Option Addr} {n c : Nat} {l : List α} (h : Sl k R F (.slice a n c) l) (hk : 0 < k) (hn : 0 < n) :
    ∃ b o, a = some ⟨b, o, none⟩ ∧ ∀ (i : Nat) (hi : i < l.length), ∃ x, x.length = k ∧ R F x l[i] ∧ ∀ j (hj : j < x.length), bI F b (o + (i * k + j)) = some x[j] := by
 obtain ⟨el, h1, h2, h3⟩ := h
 have hlen := h2.len
 have hm : n = l.length := by obtain ⟨a', c', e, _⟩ := h1; cases e; rfl
 have hne : el.flatten ≠ [] := by
  intro e
  have := congrArg List.length e
  rw [eV h3, hlen, ← hm] at this
  have := Nat.mul_pos hn hk
  simp at *
  omega
 obtain ⟨b, o, e, hc⟩ := Rw.addr h1 hne
 refine ⟨b, o, e, fun i hi => ⟨el[i]'(by omega), h3 _ (List.getElem_mem _), h2.get i (by omega) hi, fun j hj => ?_⟩⟩
 have hj' : j < k := by rw [h3 _ (List.getElem_mem _)] at hj; exact hj
 exact hc _ _ (by rw [mP h3 i (by omega) j hj']; simp [hj])

section
variable {H : Type} {enc : TypeId × Value → H} {P : Program} {w : World}
end

inductive OpSpec where
  | pure
  | const (v : Value)
  | rel (R : Value → World → Prop)
def ZG (R : Value → World → Prop) : Prop := ∀ v w w', R v w → Below w.heap.size w w' → R v w'
abbrev eF := Nat → Option Value
def upd (Vs : eF) (i : Nat) (v : Value) : eF := fun j => if j = i then some v else Vs j
theorem QW (Vs : eF) {i j : Nat} (h : i ≠ j) (v u : Value) : upd (upd Vs i v) j u = upd (upd Vs j u) i v := by
 funext k
 simp only [upd]
 by_cases h1 : k = i
 ·subst h1
  simp [h]
 ·by_cases h2 : k = j
  ·subst h2
   simp [h1]
  ·simp [h1, h2]
def jZ (s : OpSpec) (v : Value) (w : World) : Prop := match s with | .rel R => R v w | _ => True
def mQ (s : OpSpec) (Vs : eF) (i : Nat) (v : Value) : eF := match s with | .rel _ => upd Vs i v | _ => Vs
theorem OT (s t : OpSpec) (Vs : eF) {i j : Nat} (h : i ≠ j) (v u : Value) : mQ t (mQ s Vs i v) j u = mQ s (mQ t Vs j u) i v := by
 cases s <;> cases t <;> simp [mQ]
 exact QW Vs h v u
def lS (md : Region.Mode) (ops : Array Oper) : Nat → Nat → Nat → Bool
  | 0, _, _ => false
  | f + 1, j, i => match ops[j]? with
    | some o => o.after.any fun e => Region.binds md e && (e.on == i || lS md ops f e.on i)
    | none => false
section
variable {P : Program} {ops : Array Oper} {md : Region.Mode} {C : World → Prop} {Sp : Nat → OpSpec}
theorem zA {n : Nat} {listed : Array Bool} (inv : HeadInv md ops n listed) : ∀ (f x i : Nat), listed.getD x false = true → lS md ops f x i = true → listed.getD i false = true
  | 0, _, _, _, h => by simp [lS] at h
  | f + 1, x, i, hx, h => by
    unfold lS at h
    split at h
    · rename_i o ho
      obtain ⟨e, he, hb⟩ := Array.any_eq_true'.1 h
      simp only [Bool.and_eq_true, Bool.or_eq_true, beq_iff_eq] at hb
      have hl := inv.closed x o ho hx e he hb.1
      rcases hb.2 with h1 | h1
      · rw [h1] at hl; exact hl
      · exact zA inv f e.on i hl h1
    · cases h
theorem mL {n : Nat} {listed : Array Bool} (inv : HeadInv md ops n listed) {j : Nat} (hj : j ∈ Region.ready md ops listed) (f i : Nat) (h : lS md ops f j i = true) : listed.getD i false = true := by
 cases f with
 | zero => simp [lS] at h
 | succ f =>
  obtain ⟨_, o, ho, hall⟩ := mem_ready.1 hj
  unfold lS at h
  rw [ho] at h
  obtain ⟨e, he, hb⟩ := Array.any_eq_true'.1 h
  simp only [Bool.and_eq_true, Bool.or_eq_true, beq_iff_eq] at hb
  have hl := hall e he hb.1
  rcases hb.2 with h1 | h1
  ·rw [h1] at hl; exact hl
  ·exact zA inv f e.on i hl h1
def Facts (Sp : Nat → OpSpec) (Vs : eF) (w : World) : Prop := ∀ i v, Vs i = some v → jZ (Sp i) v w
def FactsAt (md : Region.Mode) (ops : Array Oper) (Sp : Nat → OpSpec) (j : Nat) (Vs : eF) (w : World) : Prop := ∀ i v, lS md ops ops.size j i = true → Vs i = some v → jZ (Sp i) v w
theorem uI {i j : Nat} (h : lS md ops ops.size j i = false) (Vs : eF) (v : Value) (w : World) : FactsAt md ops Sp j (mQ (Sp i) Vs i v) w ↔ FactsAt md ops Sp j Vs w := by
 have e : ∀ k, lS md ops ops.size j k = true → mQ (Sp i) Vs i v k = Vs k := by
  intro k hk
  cases Sp i with
  | pure => rfl
  | const _ => rfl
  | rel R =>
   show upd Vs i v k = _
   unfold upd
   rw [if_neg (by rintro rfl; rw [h] at hk; cases hk)]
 constructor
 ·intro H k u hk hu; exact H k u hk (by rw [e k hk]; exact hu)
 ·intro H k u hk hu; exact H k u hk (by rw [← e k hk]; exact hu)
def oJ (Φ : Value → World → Prop) (e : Ending) (w' : World) : Prop := ∃ v, e = .returned v ∧ Φ v w'
def wF (v : Value) (w : World) (u : Value) (w' : World) : Prop := u = v ∧ Below w.heap.size w w'
def mF (R : Value → World → Prop) (w : World) (u : Value) (w' : World) : Prop := R u w' ∧ Below w.heap.size w w'
def CF (P : Program) (w : World) (Φ : Value → World → Prop) : Result Next → Prop
  | .ok (.value u) w' => Φ u w'
  | .ok .skip w' => Φ undef w'
  | .ok (.enter f args) w' => w' = w ∧ Calls P f args w (oJ Φ)
  | _ => False
def lT (P : Program) (o : Oper) (a : Act) (w : World) (Φ : Value → World → Prop) : Prop := CF P w Φ ((execOp a.eval o).run P w)
def wZ (w : World) (v : Value) : Result Next → Prop
  | .ok (.value u) w' => w' = w ∧ u = v
  | .ok .skip w' => w' = w ∧ undef = v
  | _ => False
def PureAt (P : Program) (o : Oper) (a : Act) (w : World) (v : Value) : Prop := wZ w v ((execOp a.eval o).run P w)
theorem PureAt.unique {o : Oper} {a : Act} {w : World} {v u : Value} (h : PureAt P o a w v) (k : PureAt P o a w u) : v = u := by
 unfold PureAt at *
 generalize (execOp a.eval o).run P w = r at *
 cases r with
 | ok n w' => cases n <;> simp only [wZ] at h k <;> exact h.2.symm.trans k.2
 | halt x w' => simp only [wZ] at h
theorem Oper.wp_of_does {o : Oper} {a : Act} {w : World} {Φ : Value → World → Prop} {K : Act → World → Prop} {Q' : Exit → Act → World → Prop} (h : lT P o a w Φ) (hk : ∀ v w', Φ v w' → K (a.put o.dst v) w') : o.wp P a w K Q' := by
 unfold lT at h
 unfold Oper.wp
 generalize (execOp a.eval o).run P w = r at *
 cases r with
 | ok n w' =>
  cases n <;> simp only [CF] at h <;> simp only [Oper.upon]
  case value u => exact hk _ _ h
  case skip => exact hk _ _ h
  case enter f args =>
   obtain ⟨rfl, h⟩ := h
   exact h.mono fun e w'' hh => by obtain ⟨v, he, hw⟩ := hh; subst he; exact hk _ _ hw
 | halt x w' => simp only [CF] at h
theorem Oper.wp_of_pure {o : Oper} {a : Act} {w : World} {v : Value} {K : Act → World → Prop} {Q' : Exit → Act → World → Prop} (h : PureAt P o a w v) (hk : K (a.put o.dst v) w) : o.wp P a w K Q' := by
 unfold PureAt at h
 unfold Oper.wp
 generalize (execOp a.eval o).run P w = r at *
 cases r with
 | ok n w' =>
  cases n <;> simp only [wZ] at h <;> simp only [Oper.upon]
  case value u => obtain ⟨rfl, rfl⟩ := h; exact hk
  case skip => obtain ⟨rfl, rfl⟩ := h; exact hk
 | halt x w' => simp only [wZ] at h
def Ob (P : Program) (md : Region.Mode) (ops : Array Oper) (C : World → Prop) (Sp : Nat → OpSpec) (i : Nat) (o : Oper) (a : Act) (Vs : eF) (S : Value → Prop) : Prop :=
  match Sp i with
  | .pure => ∃ v, S = (fun u => u = v) ∧ ∀ w, C w → PureAt P o a w v
  | .const v => S = (fun u => u = v) ∧ ∀ w, C w → FactsAt md ops Sp i Vs w → lT P o a w (wF v w)
  | .rel R => S = (fun _ => True) ∧ ∀ w, C w → FactsAt md ops Sp i Vs w → lT P o a w (mF R w)
theorem Ob.some {i : Nat} {o : Oper} {a : Act} {Vs : eF} {S : Value → Prop} (h : Ob P md ops C Sp i o a Vs S) : ∃ v, S v := by
 unfold Ob at h
 split at h
 ·obtain ⟨v, rfl, _⟩ := h; exact ⟨v, rfl⟩
 ·rename_i v _; obtain ⟨rfl, _⟩ := h; exact ⟨v, rfl⟩
 ·obtain ⟨rfl, _⟩ := h; exact ⟨undef, trivial⟩
theorem Ob.unique (hC : ∃ w, C w) {i : Nat} {o : Oper} {a : Act} {Vs : eF} {S T : Value → Prop} (h : Ob P md ops C Sp i o a Vs S) (k : Ob P md ops C Sp i o a Vs T) : S = T := by
 obtain ⟨w, hw⟩ := hC
 unfold Ob at h k
 split at h
 ·rename_i e
  simp only [e] at k
  obtain ⟨v, rfl, h1⟩ := h
  obtain ⟨u, rfl, k1⟩ := k
  rw [(h1 w hw).unique (k1 w hw)]
 ·rename_i v e
  simp only [e] at k
  rw [h.1, k.1]
 ·rename_i R e
  simp only [e] at k
  rw [h.1, k.1]
theorem Ob.congr {i : Nat} {o : Oper} {a a' : Act} {Vs Vs' : eF} {S : Value → Prop} (he : execOp a'.eval o = execOp a.eval o) (hf : ∀ w, FactsAt md ops Sp i Vs' w ↔ FactsAt md ops Sp i Vs w) (h : Ob P md ops C Sp i o a Vs S) : Ob P md ops C Sp i o a' Vs' S := by
 unfold Ob at *
 split
 ·rename_i e
  simp only [e] at h
  obtain ⟨v, h1, h2⟩ := h
  exact ⟨v, h1, fun w hw => by have := h2 w hw; unfold PureAt at *; rw [he]; exact this⟩
 ·rename_i v e
  simp only [e] at h
  exact ⟨h.1, fun w hw hF => by have := h.2 w hw ((hf w).1 hF); unfold lT at *; rw [he]; exact this⟩
 ·rename_i R e
  simp only [e] at h
  exact ⟨h.1, fun w hw hF => by have := h.2 w hw ((hf w).1 hF); unfold lT at *; rw [he]; exact this⟩
def gOp (P : Program) (md : Region.Mode) (ops : Array Oper) (C : World → Prop) (Sp : Nat → OpSpec) (i : Nat) (K : Act → eF → Prop) (a : Act) (Vs : eF) : Prop :=
  match ops[i]? with
  | none => K a Vs
  | some o => if Region.wanted o (yielded ops a.tmps) = true then ∃ S, Ob P md ops C Sp i o a Vs S ∧ ∀ v, S v → K (a.put o.dst v) (mQ (Sp i) Vs i v) else K (a.put o.dst undef) Vs
theorem oK {i : Nat} {K K' : Act → eF → Prop} {a : Act} {Vs : eF} (h : ∀ a Vs, K a Vs → K' a Vs) (hh : gOp P md ops C Sp i K a Vs) : gOp P md ops C Sp i K' a Vs := by
 unfold gOp at *
 split
 ·rename_i e; simp only [e] at hh; exact h _ _ hh
 ·rename_i o e
  simp only [e] at hh
  split
  ·rename_i hw; rw [if_pos hw] at hh; obtain ⟨S, h1, h2⟩ := hh; exact ⟨S, h1, fun v hv => h _ _ (h2 v hv)⟩
  ·rename_i hw; rw [if_neg hw] at hh; exact h _ _ hh
theorem GI {i : Nat} {K : Act → eF → Prop} {a : Act} {Vs : eF} (hh : gOp P md ops C Sp i K a Vs) : ∃ a' Vs', K a' Vs' := by
 unfold gOp at hh
 split at hh
 ·exact ⟨_, _, hh⟩
 ·split at hh
  ·obtain ⟨S, h1, h2⟩ := hh
   obtain ⟨v, hv⟩ := h1.some
   exact ⟨_, _, h2 v hv⟩
  ·exact ⟨_, _, hh⟩
theorem GJ (hC : ∃ w, C w) {i j : Nat} {oi oj : Oper} (hi : ops[i]? = some oi) (hj : ops[j]? = some oj) (hij : i ≠ j) (hap : oi.apart ops oj = true)
    (hsi : ∀ cs b, oi.op ≠ .select cs b) (hsj : ∀ cs b, oj.op ≠ .select cs b) (hni : lS md ops ops.size j i = false) (hnj : lS md ops ops.size i j = false)
    {K : Act → eF → Prop} {a : Act} {Vs : eF} (h : gOp P md ops C Sp i (gOp P md ops C Sp j K) a Vs) : gOp P md ops C Sp j (gOp P md ops C Sp i K) a Vs := by
 obtain ⟨h1, h2, h3⟩ := Oper.apart_spec hap
 have wj : ∀ (a : Act) (v : Value), Region.wanted oj (yielded ops (a.put oi.dst v).tmps) = Region.wanted oj (yielded ops a.tmps) := fun a v => wanted_put oj a oi.dst v h1
 have wi : ∀ (a : Act) (v : Value), Region.wanted oi (yielded ops (a.put oj.dst v).tmps) = Region.wanted oi (yielded ops a.tmps) := fun a v => wanted_put oi a oj.dst v h3
 have ej : ∀ (a : Act) (v : Value), execOp (a.put oi.dst v).eval oj = execOp a.eval oj := fun a v => execOp_put oj hsj a oi.dst v h1
 have ei : ∀ (a : Act) (v : Value), execOp (a.put oj.dst v).eval oi = execOp a.eval oi := fun a v => execOp_put oi hsi a oj.dst v h3
 unfold gOp at h ⊢
 simp only [hi, hj] at h ⊢
 by_cases Wi : Region.wanted oi (yielded ops a.tmps) = true
 ·rw [if_pos Wi] at h
  obtain ⟨S, hS, hall⟩ := h
  obtain ⟨v0, hv0⟩ := hS.some
  by_cases Wj : Region.wanted oj (yielded ops a.tmps) = true
  ·rw [if_pos Wj]
   have hall' : ∀ v, S v → ∃ T, Ob P md ops C Sp j oj a Vs T ∧ ∀ u, T u → K ((a.put oi.dst v).put oj.dst u) (mQ (Sp j) (mQ (Sp i) Vs i v) j u) := by
    intro v hv
    have := hall v hv
    rw [if_pos (by rw [wj]; exact Wj)] at this
    obtain ⟨T, hT, hK⟩ := this
    exact ⟨T, hT.congr (ej a v).symm (fun w => (uI hni Vs v w).symm), hK⟩
   obtain ⟨T, hT, _⟩ := hall' v0 hv0
   refine ⟨T, hT, fun u hu => ?_⟩
   rw [if_pos (by rw [wi]; exact Wi)]
   refine ⟨S, hS.congr (ei a u) (fun w => uI hnj Vs u w), fun v hv => ?_⟩
   obtain ⟨T', hT', hK⟩ := hall' v hv
   have := hK u (by rw [← hT.unique hC hT']; exact hu)
   rwa [Act.put_comm a v u h2, OT (Sp i) (Sp j) Vs hij v u] at this
  ·rw [if_neg Wj, if_pos (by rw [wi]; exact Wi)]
   refine ⟨S, hS.congr (ei a undef) (fun w => Iff.rfl), fun v hv => ?_⟩
   have := hall v hv
   rw [if_neg (by rw [wj]; exact Wj)] at this
   rwa [Act.put_comm a v undef h2] at this
 ·rw [if_neg Wi] at h
  by_cases Wj : Region.wanted oj (yielded ops a.tmps) = true
  ·rw [if_pos (by rw [wj]; exact Wj)] at h
   obtain ⟨T, hT, hK⟩ := h
   rw [if_pos Wj]
   refine ⟨T, hT.congr (ej a undef).symm (fun w => Iff.rfl), fun u hu => ?_⟩
   rw [if_neg (by rw [wi]; exact Wi)]
   have := hK u hu
   rwa [Act.put_comm a undef u h2] at this
  ·rw [if_neg (by rw [wj]; exact Wj)] at h
   rw [if_neg Wj, if_neg (by rw [wi]; exact Wi)]
   rwa [Act.put_comm a undef undef h2] at h
def wG (P : Program) (md : Region.Mode) (ops : Array Oper) (C : World → Prop) (Sp : Nat → OpSpec) (n : Nat) (L : Array Bool → Act → eF → Prop) : Nat → Array Bool → Act → eF → Prop
  | 0, listed, a, Vs => L listed a Vs
  | f + 1, listed, a, Vs => Region.ready md ops listed ≠ [] ∧ ∀ i ∈ Region.ready md ops listed, i < n ∧ gOp P md ops C Sp i (wG P md ops C Sp n L f (listed.setIfInBounds i true)) a Vs
theorem kN (hst : ∀ i v w w', jZ (Sp i) v w → Below w.heap.size w w' → jZ (Sp i) v w') (hCE : ∀ w w', C w → Below w.heap.size w w' → C w') {n g : Nat} {L : Array Bool → Act → eF → Prop} {Q' : Exit → Act → World → Prop}
    (hL : ∀ listed a Vs w, C w → Facts Sp Vs w → L listed a Vs → wpAny P md ops Q' g listed a w) :
    ∀ (f : Nat) (listed : Array Bool) (a : Act) (Vs : eF) (w : World), C w → Facts Sp Vs w → wG P md ops C Sp n L f listed a Vs → wpAny P md ops Q' (f + g) listed a w
  | 0, listed, a, Vs, w, hc, hF, h => by rw [Nat.zero_add]; exact hL _ _ _ _ hc hF h
  | f + 1, listed, a, Vs, w, hc, hF, h => by
    rw [show f + 1 + g = (f + g) + 1 by omega]
    refine ⟨fun h0 => absurd h0 h.1, fun i hi => ?_⟩
    have hg := (h.2 i hi).2
    unfold gOp at hg
    unfold wpOp
    split
    · rename_i e
      simp only [e] at hg
      exact kN hst hCE hL f _ a Vs w hc hF hg
    · rename_i o e
      simp only [e] at hg
      split
      · rename_i hw
        rw [if_pos hw] at hg
        obtain ⟨S, hS, hall⟩ := hg
        left
        unfold Ob at hS
        split at hS
        · rename_i es
          obtain ⟨v, rfl, hp⟩ := hS
          have hn := hall v rfl
          simp only [es, mQ] at hn
          exact Oper.wp_of_pure (hp w hc) (kN hst hCE hL f _ _ Vs w hc hF hn)
        · rename_i v es
          obtain ⟨rfl, hp⟩ := hS
          have hn := hall v rfl
          simp only [es, mQ] at hn
          refine Oper.wp_of_does (hp w hc fun i' v' _ hv => hF i' v' hv) fun u w' ⟨hu, hb⟩ => ?_
          subst hu
          exact kN hst hCE hL f _ _ Vs w' (hCE w w' hc hb) (fun i' v' hv => hst i' v' w w' (hF i' v' hv) hb) hn
        · rename_i R es
          obtain ⟨rfl, hp⟩ := hS
          refine Oper.wp_of_does (hp w hc fun i' v' _ hv => hF i' v' hv) fun u w' ⟨hu, hb⟩ => ?_
          have hn := hall u trivial
          refine kN hst hCE hL f _ _ _ w' (hCE w w' hc hb) (fun i' v' hv => ?_) hn
          simp only [es, mQ] at hv
          unfold upd at hv
          split at hv
          · rename_i e'
            subst e'
            cases hv
            simp only [es, jZ]
            exact hu
          · exact hst i' v' w w' (hF i' v' hv) hb
      · rename_i hw
        rw [if_neg hw] at hg
        exact kN hst hCE hL f _ _ Vs w hc hF hg
theorem DS (hC : ∃ w, C w) {n i : Nat} {oi : Oper} {L : Array Bool → Act → eF → Prop} (hi : ops[i]? = some oi) (hsel : ∀ (j : Nat) (o : Oper) cs b, ops[j]? = some o → o.op ≠ .select cs b)
    (hs : Region.sinkB md ops n = true) (hc : Region.chainB md ops n = true) (hn : n < ops.size) (hin : i < n)
    (hdone : ∀ listed a Vs, L listed a Vs → ∀ j ∈ Region.ready md ops listed, n ≤ j) :
    ∀ (f : Nat) (listed : Array Bool) (a : Act) (Vs : eF), HeadInv md ops n listed →
      (∀ j oj, ops[j]? = some oj → j ≠ i → listed.getD j true = false → (∀ e ∈ oj.after, Region.binds md e = true → e.on ≠ i) → oi.apart ops oj = true) →
      i ∈ Region.ready md ops listed →
      gOp P md ops C Sp i (wG P md ops C Sp n L f (listed.setIfInBounds i true)) a Vs → wG P md ops C Sp n L (f + 1) listed a Vs := by
 intro f
 induction f with
 | zero =>
  intro listed a Vs inv _ hr H
  have hun := (mem_ready.1 hr).1
  refine ⟨fun h => (by rw [h] at hr; cases hr), fun j hj => ?_⟩
  have hjn : j < n := by
   rcases Nat.lt_or_ge j n with h | h
   ·exact h
   ·exact absurd hj (tail_waits hs hc hn inv _ i rfl hin hun j h)
  refine ⟨hjn, ?_⟩
  by_cases hji : j = i
  ·subst hji; exact H
  ·obtain ⟨a', Vs', hL⟩ := GI H
   have := hdone _ _ _ hL j (ready_mono hj hji)
   omega
 | succ f ih =>
  intro listed a Vs inv hfree hr H
  have hun := (mem_ready.1 hr).1
  refine ⟨fun h => (by rw [h] at hr; cases hr), fun j hj => ?_⟩
  have hjn : j < n := by
   rcases Nat.lt_or_ge j n with h | h
   ·exact h
   ·exact absurd hj (tail_waits hs hc hn inv _ i rfl hin hun j h)
  refine ⟨hjn, ?_⟩
  by_cases hji : j = i
  ·subst hji; exact H
  ·obtain ⟨hjun, oj, hoj, hall⟩ := mem_ready.1 hj
   have hnot : ∀ e ∈ oj.after, Region.binds md e = true → e.on ≠ i := fun e he hb heq => by
    have h1 := hall e he hb
    rw [heq, getD_both hun] at h1
    cases h1
   have a1 : lS md ops ops.size j i = false := by
    cases hx : lS md ops ops.size j i with
    | false => rfl
    | true => have := mL inv hj _ _ hx; rw [getD_both hun] at this; cases this
   have a2 : lS md ops ops.size i j = false := by
    cases hx : lS md ops ops.size i j with
    | false => rfl
    | true => have := mL inv hr _ _ hx; rw [getD_both hjun] at this; cases this
   have H1 : gOp P md ops C Sp i (gOp P md ops C Sp j (wG P md ops C Sp n L f ((listed.setIfInBounds i true).setIfInBounds j true))) a Vs :=
    oK (fun a' Vs' h => (h.2 j (ready_mono hj hji)).2) H
   have H2 := GJ hC hi hoj (Ne.symm hji) (hfree j oj hoj hji hjun hnot) (fun cs b => hsel i oi cs b hi) (fun cs b => hsel j oj cs b hoj) a1 a2 H1
   have hfree' : ∀ k ok, ops[k]? = some ok → k ≠ i → (listed.setIfInBounds j true).getD k true = false →
     (∀ e ∈ ok.after, Region.binds md e = true → e.on ≠ i) → oi.apart ops ok = true := fun k ok hk hki hun' hno => by
    refine hfree k ok hk hki ?_ hno
    by_cases hjk : j = k
    ·subst hjk; exact hjun
    ·rw [getD_set_ne true hjk] at hun'; exact hun'
   refine oK (fun a' Vs' h3 => ih (listed.setIfInBounds j true) a' Vs' (inv.set hj hjn) hfree' (ready_mono hr (Ne.symm hji)) ?_) H2
   rw [Array.setIfInBounds_comm _ _ hji]
   exact h3
def wpG (P : Program) (md : Region.Mode) (ops : Array Oper) (C : World → Prop) (Sp : Nat → OpSpec) (Lq : Act → eF → Prop) : List Oper → Nat → Act → eF → Prop
  | [], _, a, Vs => Lq a Vs
  | o :: l, k, a, Vs => if Region.wanted o (yielded ops a.tmps) = true then ∃ S, Ob P md ops C Sp k o a Vs S ∧ ∀ v, S v → wpG P md ops C Sp Lq l (k + 1) (a.put o.dst v) (mQ (Sp k) Vs k v) else wpG P md ops C Sp Lq l (k + 1) (a.put o.dst undef) Vs
theorem zB (hC : ∃ w, C w) {n g : Nat} {Lq : Act → eF → Prop} (hsel : Region.noSelect ops = true) (hs : Region.sinkB md ops n = true) (hc : Region.chainB md ops n = true) (hn : n < ops.size) :
    ∀ (l : List Oper) (k : Nat) (listed : Array Bool) (a : Act) (Vs : eF), (∀ j, j < l.length → l[j]? = ops[k + j]?) → k + l.length = n → HeadInv md ops n listed →
    Region.lexHead md ops g l.length k listed = true → wpG P md ops C Sp Lq l k a Vs →
    wG P md ops C Sp n (fun listed' a' Vs' => Region.seqB md ops g n listed' = true ∧ Lq a' Vs') l.length listed a Vs
  | [], k, listed, a, Vs, _, hk, _, hB, h => by
    have : k = n := by simpa using hk
    subst this
    exact ⟨by simpa [Region.lexHead] using hB, h⟩
  | o :: l, k, listed, a, Vs, hl, hk, inv, hB, h => by
    have h0 : ops[k]? = some o := by simpa using (hl 0 (by simp)).symm
    simp only [List.length_cons, Region.lexHead, Bool.and_eq_true] at hB
    obtain ⟨⟨hr, hf⟩, hB'⟩ := hB
    have hkn : k < n := by simp only [List.length_cons] at hk; omega
    have hr' : k ∈ Region.ready md ops listed := by simpa using hr
    have hg : gOp P md ops C Sp k (wpG P md ops C Sp Lq l (k + 1)) a Vs := by unfold gOp; simp only [h0]; exact h
    exact DS hC h0 (Region.noSelect_spec hsel) hs hc hn hkn (fun listed' a' Vs' hL => seqB_ready hL.1) l.length listed a Vs inv (Region.free_spec h0 hf) hr'
      (oK (fun a' Vs' h' => zB hC hsel hs hc hn l (k + 1) _ a' Vs' (fun j hj => by have := hl (j + 1) (by simp; omega); simpa [Nat.add_assoc, Nat.add_comm 1 j] using this) (by simp only [List.length_cons] at hk; omega) (inv.set hr' hkn) hB' h') hg)
end
theorem zC {P : Program} {id : Nat} {Q : Exit → Act → World → Prop} {a : Act} {w : World} {l : List Oper} (n : Nat) (Sp : Nat → OpSpec) (hm : P.follows .mixedOrders = true) (hB : Region.lexTailB .any l.toArray n = true)
    (hst : ∀ i v w w', jZ (Sp i) v w → Below w.heap.size w w' → jZ (Sp i) v w')
    (h : wpG P .any l.toArray (fun w' => Below w.heap.size w w') Sp (fun a' Vs => ∀ w', Below w.heap.size w w' → Facts Sp Vs w' → wpList P l.toArray Q (l.drop n) a' w') (l.take n) 0 a (fun _ => none)) : (Code.region id l.toArray true).wp P Q a w := by
 simp only [Region.lexTailB, Bool.and_eq_true, decide_eq_true_eq] at hB
 obtain ⟨⟨⟨⟨hsel, hn⟩, hs⟩, hc⟩, hlex⟩ := hB
 have hn' : n < l.length := by simpa using hn
 have htl : (l.take n).length = n := by simp; omega
 have hdl : (l.drop n).length = l.toArray.size - n := by simp
 have inv0 : HeadInv .any l.toArray n (Array.replicate l.toArray.size false) :=
  ⟨by simp, fun j oj _ hl => (by rw [getD_replicate_false] at hl; cases hl), fun t _ ht => getD_in (by simpa using ht) (getD_replicate_false _ _)⟩
 have H := zB (md := .any) (g := l.toArray.size - n) ⟨w, Below.refl _ _⟩ hsel hs hc hn (l.take n) 0 _ a _ (fun j hj => by
  have hj' : j < n := by rw [htl] at hj; exact hj
  simp [hj']) (by simpa using htl) inv0 (by rw [htl]; exact hlex) h
 refine wp_region_any hm ?_
 have := kN (Q' := Q) (g := l.toArray.size - n) hst (fun w1 w2 h1 h2 => h1.trans (h2.mono h1.size)) (fun listed a' Vs w' hC hF hL => by
  have := wpAny_of_seq (md := .any) (Q' := Q) (l.drop n) n listed a' w' (fun j => by simp [List.getElem?_drop]) (by rw [hdl]; exact hL.1) (hL.2 w' hC hF)
  rwa [hdl] at this) _ _ _ _ ({ w with drawn := w.drawn + 1 } : World) (Below.refl w.heap.size w).drew (fun i v h => by cases h) H
 rw [htl, show n + (l.toArray.size - n) = l.toArray.size by omega] at this
 exact this
section
variable {P : Program} {ops : Array Oper} {md : Region.Mode} {C : World → Prop} {Sp : Nat → OpSpec} {Lq : Act → eF → Prop} {o : Oper} {l : List Oper} {k : Nat} {a : Act} {Vs : eF}
@[go_sem] theorem YS (w w' : World) (Φ : Value → World → Prop) (u : Value) : CF P w Φ (.ok (.value u) w') = Φ u w' := rfl
@[go_sem] theorem YT (w w' : World) (Φ : Value → World → Prop) (f : FuncId) (args : Array Value) : CF P w Φ (.ok (.enter f args) w') = (w' = w ∧ Calls P f args w (oJ Φ)) := rfl
@[go_sem] theorem YU (w w' : World) (v u : Value) : wZ w v (.ok (.value u) w') = (w' = w ∧ u = v) := rfl
theorem VK (h : Lq a Vs) : wpG P md ops C Sp Lq [] k a Vs := h
theorem QX (hw : Region.wanted o (yielded ops a.tmps) = true) (hs : Sp k = .pure) (v : Value) (h : ∀ w, C w → PureAt P o a w v) (hn : wpG P md ops C Sp Lq l (k + 1) (a.put o.dst v) Vs) : wpG P md ops C Sp Lq (o :: l) k a Vs := by
 unfold wpG
 rw [if_pos hw]
 refine ⟨fun u => u = v, by unfold Ob; rw [hs]; exact ⟨v, rfl, h⟩, fun u hu => ?_⟩
 subst hu
 rw [hs]
 exact hn
theorem OU (hw : Region.wanted o (yielded ops a.tmps) = true) {v : Value} (hs : Sp k = .const v) (h : ∀ w, C w → FactsAt md ops Sp k Vs w → lT P o a w (wF v w)) (hn : wpG P md ops C Sp Lq l (k + 1) (a.put o.dst v) Vs) : wpG P md ops C Sp Lq (o :: l) k a Vs := by
 unfold wpG
 rw [if_pos hw]
 refine ⟨fun u => u = v, by unfold Ob; rw [hs]; exact ⟨rfl, h⟩, fun u hu => ?_⟩
 subst hu
 rw [hs]
 exact hn
theorem VL (hw : Region.wanted o (yielded ops a.tmps) = true) {R : Value → World → Prop} (hs : Sp k = .rel R) (h : ∀ w, C w → FactsAt md ops Sp k Vs w → lT P o a w (mF R w)) (hn : ∀ v, wpG P md ops C Sp Lq l (k + 1) (a.put o.dst v) (upd Vs k v)) : wpG P md ops C Sp Lq (o :: l) k a Vs := by
 unfold wpG
 rw [if_pos hw]
 refine ⟨fun _ => True, by unfold Ob; rw [hs]; exact ⟨rfl, h⟩, fun u _ => ?_⟩
 rw [hs]
 exact hn u
theorem QY (hw : Region.wanted o (yielded ops a.tmps) = false) (hn : wpG P md ops C Sp Lq l (k + 1) (a.put o.dst undef) Vs) : wpG P md ops C Sp Lq (o :: l) k a Vs := by
 unfold wpG
 rw [if_neg (by rw [hw]; exact Bool.false_ne_true)]
 exact hn
end
def Made (w0 : World) (F : Fz) (R : Fz → Value → Prop) (v : Value) (w : World) : Prop := ∃ F', Gr w0 F w F' ∧ R F' v
theorem Made.stable {w0 : World} {F : Fz} {R : Fz → Value → Prop} {v : Value} {w w' : World} (h : Made w0 F R v w) (hb : Below w.heap.size w w') : Made w0 F R v w' := by
 obtain ⟨F', g, r⟩ := h
 exact ⟨F', g.trans (Gr.of_below g.sat hb), r⟩
theorem dC {P : Program} {f : FuncId} {args : Array Value} {w0 w : World} {F : Fz} {R : Fz → Value → Prop} (hs : Sat w0 F) (hC : Below w0.heap.size w0 w) (h : Calls P f args w (dI w F R)) : Calls P f args w (oJ (mF (Made w0 F R) w)) :=
  h.mono fun e w' hh => by
    obtain ⟨v, F', he, g, r⟩ := hh
    exact ⟨v, he, ⟨F', (Gr.of_below hs hC).trans g, r⟩, g.below⟩
theorem kO {P : Program} {f : FuncId} {args : Array Value} {w : World} {v : Value} (h : Calls P f args w (cS w v)) : Calls P f args w (oJ (wF v w)) :=
  h.mono fun _ _ hh => ⟨v, hh.1, rfl, hh.2⟩
inductive Mark where
  | is (v : Value)
  | made (R : Fz → Value → Prop)
  | rel (R : Value → World → Prop) (st : ∀ v w w', R v w → Below w.heap.size w w' → R v w')
def fM (W : World) (F : Fz) (L : List (Nat × Mark)) (i : Nat) : OpSpec :=
  match L.lookup i with
  | some (.is v) => .const v
  | some (.made R) => .rel (Made W F R)
  | some (.rel R _) => .rel R
  | none => .pure
theorem tH {W : World} {F : Fz} {L : List (Nat × Mark)} : ∀ i v w w', jZ (fM W F L i) v w → Below w.heap.size w w' → jZ (fM W F L i) v w' := by
 intro i v w w' h hb
 unfold fM at *
 split
 ·trivial
 ·rename_i R e
  simp only [e] at h
  exact Made.stable h hb
 ·rename_i R st e
  simp only [e] at h
  exact st _ _ _ h hb
 ·trivial
theorem zD {P : Program} {id : Nat} {Q : Exit → Act → World → Prop} {a : Act} {W : World} {l : List Oper} (F : Fz) (n : Nat) (L : List (Nat × Mark)) (hm : P.follows .mixedOrders = true) (hB : Region.lexTailB .any l.toArray n = true)
    (h : wpG P .any l.toArray (fun w' => Below W.heap.size W w') (fM W F L) (fun a' Vs => ∀ w', Below W.heap.size W w' → Facts (fM W F L) Vs w' → wpList P l.toArray Q (l.drop n) a' w') (l.take n) 0 a (fun _ => none)) : (Code.region id l.toArray true).wp P Q a W :=
  zC n (fM W F L) hm hB tH h
theorem Facts.get {W : World} {F : Fz} {L : List (Nat × Mark)} {Vs : eF} {w : World} (h : Facts (fM W F L) Vs w) (i : Nat) {v : Value} {R : Fz → Value → Prop} (hv : Vs i = some v) (hL : fM W F L i = .rel (Made W F R)) : ∃ F', Gr W F w F' ∧ R F' v := by
 have := h i v hv
 rw [hL] at this
 exact this
theorem FactsAt.get {md : Region.Mode} {ops : Array Oper} {W : World} {F : Fz} {L : List (Nat × Mark)} {Vs : eF} {w : World} {j : Nat} (h : FactsAt md ops (fM W F L) j Vs w) (i : Nat) {v : Value} {R : Fz → Value → Prop} (ha : lS md ops ops.size j i = true) (hv : Vs i = some v) (hL : fM W F L i = .rel (Made W F R)) : ∃ F', Gr W F w F' ∧ R F' v := by
 have := h i v ha hv
 rw [hL] at this
 exact this
def both (F G : Fz) : Fz := fun b => match F b with | some o => some o | none => G b
theorem kP (F G : Fz) : Le F (both F G) := fun b o h => by simp [both, h]
theorem mR {F G : Fz} {w : World} (hF : Sat w F) (hG : Sat w G) : Le G (both F G) := fun b o h => by
  unfold both
  cases hb : F b with
  | none => exact h
  | some x => have h1 := hF b x hb; have h2 := hG b o h; rw [h1] at h2; simpa using h2
theorem Gr.both {w w' : World} {F F1 F2 : Fz} (h : Gr w F w' F1) (k : Gr w F w' F2) : Gr w F w' (both F1 F2) :=
  ⟨h.below, fun b hb => by unfold Proofs.YtilgpdpooildcaaGreatDoor.both; rw [h.old b hb]; cases hf : F b with | none => exact (k.old b hb).trans hf | some o => rfl, fun b o hb => by
    unfold Proofs.YtilgpdpooildcaaGreatDoor.both at hb
    split at hb
    · rename_i x hx; cases hb; exact h.sat b _ hx
    · exact k.sat b o hb⟩
theorem cW (F : Fz) (w : World) (v : Value) (l : List UInt8) (hs : Sat w F) (hv : Bs F v l) (hm : l.length ≤ 100000) :
    Calls Tryz.prog 45 #[v] w (dI w F fun F' u => Bs F' u l) := by
 obtain ⟨a, c, rfl, hlc, hcm⟩ := hv.shape
 obtain ⟨i, hi, hz0, hz1, hz2⟩ := info_parts pG
 have hr := hv
 unfold Bs at hr
 have hnil := Lib.run_eql_slice_nil (P := Tryz.prog) w 25 5 a l.length c 0 0 Tryz.underlying25
 cases a with
 | none =>
  have hl : l = [] := by
   obtain ⟨a', c', h1, _, _, h4, _⟩ := hr
   cases h1
   exact List.eq_nil_of_length_eq_zero (h4 rfl).1
  subst hl
  simp only [List.length_nil] at hnil
  go_enter Tryz.func45, Tryz.ntmps45
  go_wp2_with fail
  go_ret
  exact ⟨_, F, rfl, Gr.refl hs, Bs.nil F⟩
 | some a =>
  have hown := World.ownsRow_lit (base := w.heap.size) (e := 5) (size := 1) w #[] 0 (Nat.le_refl _) (Nat.zero_le _) rfl
  have hsa := hs.alloc (.cells #[] 5)
  go_enter Tryz.func45, Tryz.ntmps45
  go_wp2_with (at_builtin; go_loud (refine nM rfl _ _ 25 rfl w.heap.size 5 i (.int .u8 0) 1 1 Tryz.underlying25 hi hz0 hz1 hz2 rfl (by decide) rfl hown rfl hsa hr (by simp) (yZ _) (by unfold maxLen; omega) (by omega) (by simp) ?_))
  intro v1 w1 hown1 hg _
  have hb : Below w.heap.size w w1 := ((Below.refl _ _).alloc (Nat.le_refl _) _).grown hg (by simp) (fun g hg' => (hown.lt g hg').1)
  clear hg hown
  go_wp2_with fail
  go_ret
  obtain ⟨F', h1, h2⟩ := Gr.row hs hb hown1
  exact ⟨_, F', rfl, h1, by simpa [Bs] using h2⟩
def PrV (F : Fz) (v : Value) (k x : List UInt8) : Prop := ∃ a b, v = .agg #[a, b] ∧ Bs F a k ∧ Bs F b x
theorem PrV.mono {F F' : Fz} {v : Value} {k x : List UInt8} (h : PrV F v k x) (hl : Le F F') : PrV F' v k x := by
 obtain ⟨a, b, h1, h2, h3⟩ := h
 exact ⟨a, b, h1, h2.mono hl, h3.mono hl⟩
theorem eS {P : Program} {k : FuncId} {vs : Array Value} {w : World} {b c : Bool} (h : Calls P k vs w (cS w (.bool b))) (e : b = c) : Calls P k vs w (cS w (.bool c)) := e ▸ h
theorem OV {P : Program} {f : FuncId} {fn : Func} {s : ChangeSpec} {c : OpenClaim}
    (h1 : (c.wf (OpenSpec.ofChange s)) = true)
    (h2 : (laidOutB P) = true)
    (h3 : (mapsRowed P) = true)
    (h4 : (fn.params.all (P.readableRec ·)) = true)
    (h5 : (namedTie P c.named s.vars) = true)
    (h6 : ((c.stops == [])) = true)
    (h7 : ((P.stops == [])) = true)
    (h8 : ((c.knobs == [])) = true)
    (h9 : ((P.stopKnobs == [])) = true)
    (a0 : ((c.inPlace == P.inPlace f)) = true)
    (a1 : ((c.unfollowed == P.unfollowed f)) = true)
    (a2 : ((c.recurses == P.recurses f)) = true)
    (a3 : ((c.named == P.varsNamed f)) = true)
    (a4 : ((c.maps == (fn.params.toList ++ s.plain.varTypes P).any (P.mapsRec ·))) = true)
    (a5 : ((c.ifaces == (fn.params.toList ++ s.plain.varTypes P).any (P.ifacesRec ·))) = true)
    (a6 : ((c.mapsOut == P.mapsAmong fn.resultTypes.toList)) = true)
    (a7 : ((c.loops == (fn.params.toList ++ s.plain.varTypes P).any (P.loopsFrom ·))) = true)
    (a8 : ((c.wideKeys == (fn.params.toList ++ s.plain.varTypes P ++ fn.resultTypes.toList).any (P.wideKeysFrom ·))) = true)
    (a9 : (s.vars.all (P.varReadable ·)) = true)
    (b0 : (fn.resultTypes.all (fun t => P.readableRec t && decide (t < P.types.size))) = true)
    (b1 : ((c.ifacesOut == fn.resultTypes.toList.any (P.ifacesRec ·))) = true)
    (b2 : ((c.loopsOut == fn.resultTypes.toList.any (P.loopsFrom ·))) = true)
    (b3 : ((c.plainKeys == P.plainKeys)) = true)
    (b4 : (c.shortTexts.isNone) = true)
    (b5 : (P.stopsHeard) = true)
    (b6 : (P.mayEnter) = true)
    (b7 : ((c.lifted == P.liftsFinal)) = true)
    (b9 : ((P.make == some c.make)) = true)
    (c0 : ((c.kinds == (if c.domain.isEmpty then [] else fn.params.toList.map fun t => match P.underlying t with | some (.int k) => some k | _ => none))) = true)
    (c1 : ((c.pinned == c.pinnedBy)) = true)
    (c2 : ((c.veiled == (fn.params.toList ++ s.plain.varTypes P ++ fn.resultTypes.toList).any (P.veiledRec ·))) = true)
    (c3 : (c.veiledFits P fn.params.toList (fn.params.toList ++ s.plain.varTypes P ++ fn.resultTypes.toList)) = true)
    : joinedFacts P f fn s c = true := by
 unfold joinedFacts
 simp only [Bool.and_eq_true]
 exact ⟨⟨⟨⟨⟨⟨⟨⟨⟨⟨⟨⟨⟨⟨⟨⟨⟨⟨⟨⟨⟨⟨⟨⟨⟨⟨⟨⟨⟨⟨⟨h1, h2⟩, h3⟩, h4⟩, h5⟩, h6⟩, h7⟩, h8⟩, h9⟩, a0⟩, a1⟩, a2⟩, a3⟩, a4⟩, a5⟩, a6⟩, a7⟩, a8⟩, a9⟩, b0⟩, b1⟩, b2⟩, b3⟩, b4⟩, b5⟩, b6⟩, b7⟩, b9⟩, c0⟩, c1⟩, c2⟩, c3⟩

theorem jH : ∀ (w r : List Char), (w.all fun c => c != Char.ofNat 32) = true → wordsSigns (w ++ Char.ofNat 32 :: r) = w :: wordsSigns r
  | [], _, _ => rfl
  | c :: w, r, h => by
    simp only [List.all_cons, Bool.and_eq_true] at h
    have ih := jH w r h.2
    have hc : c ≠ Char.ofNat 32 := by simpa using h.1
    rw [List.cons_append, wordsSigns, ih]
    intro e
    exact hc (e.trans (by decide))
theorem QZ {P : Program} {S D : List Nat} (h : P.initOrder = String.ofList (([104, 97, 114, 110, 101, 115, 115].map Char.ofNat) ++ Char.ofNat 32 :: (S.map Char.ofNat ++ Char.ofNat 32 :: ([99, 117, 116].map Char.ofNat ++ Char.ofNat 32 :: D.map Char.ofNat))))
    (hs : isSumSigns (S.map Char.ofNat) = true) (hn : ((S.map Char.ofNat).all fun c => c != Char.ofNat 32) = true) : ∃ R, behindMainWord (wordsSigns P.initOrder.toList) = [99, 117, 116].map Char.ofNat :: R := by
 rw [h, String.toList_ofList, jH _ _ (by decide), jH _ _ hn, jH _ _ (by decide)]
 refine ⟨wordsSigns (D.map Char.ofNat), ?_⟩
 generalize wordsSigns (D.map Char.ofNat) = R
 show (if _ then _ else _) = _
 rw [hs, if_pos (by decide +kernel)]
theorem CG (R : List (List Char)) : stripLifts liftWords ([99, 117, 116].map Char.ofNat :: R) = ([], [99, 117, 116].map Char.ofNat :: R) := by kernel_rfl
theorem GK {P : Program} (hw : ∃ R, behindMainWord (wordsSigns P.initOrder.toList) = [99, 117, 116].map Char.ofNat :: R) (h1 : P.laysLater = false) (h2 : P.bearsReflect = false) (h3 : P.doorFits [] = true) : P.mayEnter = true := by
 obtain ⟨R, hR⟩ := hw
 unfold Program.mayEnter
 rw [hR]
 simp only [CG, h1, h2, h3]
 simp only [List.head?_cons]
 rw [show (some (List.map Char.ofNat [99, 117, 116]) == some "cut".toList) = true from by decide +kernel]
 simp
theorem DT {P : Program} (hw : ∃ R, behindMainWord (wordsSigns P.initOrder.toList) = [99, 117, 116].map Char.ofNat :: R) : P.headLifts = [] := by
 obtain ⟨R, hR⟩ := hw
 unfold Program.headLifts
 rw [hR]
 simp only [CG]
 simp
theorem BM {P : Program} (hw : ∃ R, behindMainWord (wordsSigns P.initOrder.toList) = [99, 117, 116].map Char.ofNat :: R) : P.liftsFinal = false := by
 have hl := DT hw
 obtain ⟨R, hR⟩ := hw
 unfold Program.liftsFinal
 rw [hl]
 simp only [hR, List.head?_cons]
 rw [show (some (List.map Char.ofNat [99, 117, 116]) == some "carried".toList) = false from by decide +kernel]
 simp
theorem VM {P : Program} (hw : ∃ R, behindMainWord (wordsSigns P.initOrder.toList) = [99, 117, 116].map Char.ofNat :: R) : P.make = some .cut := by
 obtain ⟨R, hR⟩ := hw
 unfold Program.make
 rw [hR]
 dsimp only
 rw [if_neg (by decide +kernel), if_pos (by rw [show (List.map Char.ofNat [99, 117, 116] == "cut".toList) = true from by decide +kernel]; rfl)]
theorem OW : Tryz.pinned.checked.prog.initOrder = String.ofList (([104, 97, 114, 110, 101, 115, 115].map Char.ofNat) ++ Char.ofNat 32 :: (([99, 55, 51, 51, 102, 49, 53, 99, 53, 53, 100, 52, 102, 57, 50, 102, 56, 57, 56, 99, 98, 99, 57, 98, 52, 56, 100, 101, 98, 97, 102, 57, 55, 54, 97, 52, 102, 50, 102, 102, 52, 50, 55, 56, 50, 100, 99, 52, 97, 49, 53, 52, 101, 50, 55, 98, 102, 54, 100, 99, 52, 55, 56, 99] : List Nat).map Char.ofNat ++ Char.ofNat 32 :: ([99, 117, 116].map Char.ofNat ++ Char.ofNat 32 :: ([97, 116, 32, 99, 97, 110, 111, 112, 121, 47, 99, 97, 110, 111, 112, 121, 116, 111, 112, 46, 84, 111, 112, 82, 111, 117, 110, 100, 115, 32, 99, 97, 110, 111, 112, 121, 47, 99, 97, 110, 111, 112, 121, 116, 111, 112, 46, 84, 111, 112, 73, 100, 108, 101, 32, 99, 97, 110, 111, 112, 121, 47, 99, 97, 110, 111, 112, 121, 116, 111, 112, 46, 84, 111, 112, 84, 119, 105, 99, 101, 32, 99, 97, 110, 111, 112, 121, 47, 99, 97, 110, 111, 112, 121, 116, 111, 112, 46, 84, 111, 112, 65, 110, 101, 119, 32, 99, 97, 110, 111, 112, 121, 47, 99, 97, 110, 111, 112, 121, 116, 111, 112, 46, 84, 111, 112, 82, 111, 111, 116, 115, 32, 99, 97, 110, 111, 112, 121, 47, 99, 97, 110, 111, 112, 121, 116, 111, 112, 46, 84, 111, 112, 66, 97, 110, 107, 32, 99, 97, 110, 111, 112, 121, 47, 99, 97, 110, 111, 112, 121, 116, 111, 112, 46, 84, 111, 112, 67, 108, 97, 115, 104, 32, 99, 97, 110, 111, 112, 121, 47, 99, 97, 110, 111, 112, 121, 116, 111, 112, 46, 84, 111, 112, 66, 108, 105, 110, 100, 32, 99, 97, 110, 111, 112, 121, 47, 99, 97, 110, 111, 112, 121, 116, 111, 112, 46, 84, 111, 112, 65, 112, 97, 114, 116, 32, 99, 97, 110, 111, 112, 121, 47, 99, 97, 110, 111, 112, 121, 116, 111, 112, 46, 84, 111, 112, 67, 111, 117, 110, 116, 101, 114, 32, 99, 97, 110, 111, 112, 121, 47, 99, 97, 110, 111, 112, 121, 116, 111, 112, 46, 84, 111, 112, 71, 111, 110, 101, 32, 99, 97, 110, 111, 112, 121, 47, 99, 97, 110, 111, 112, 121, 116, 111, 112, 46, 84, 111, 112, 81, 117, 101, 117, 101, 32, 99, 97, 110, 111, 112, 121, 47, 99, 97, 110, 111, 112, 121, 116, 111, 112, 46, 84, 111, 112, 87, 97, 105, 116, 115, 32, 99, 97, 110, 111, 112, 121, 47, 99, 97, 110, 111, 112, 121, 116, 111, 112, 46, 84, 111, 112, 80, 104, 97, 110, 116, 111, 109, 32, 99, 97, 110, 111, 112, 121, 47, 99, 97, 110, 111, 112, 121, 116, 111, 112, 46, 84, 111, 112, 79, 119, 110, 32, 99, 97, 110, 111, 112, 121, 47, 99, 97, 110, 111, 112, 121, 116, 111, 112, 46, 84, 111, 112, 76, 111, 115, 116] : List Nat).map Char.ofNat))) := by
 show Tryz.progTables.initOrder = _
 unfold Tryz.progTables
 dsimp only
 kernel_rfl
theorem tP : ∃ R, behindMainWord (wordsSigns Tryz.pinned.checked.prog.initOrder.toList) = [99, 117, 116].map Char.ofNat :: R := QZ OW (by decide +kernel) (by decide +kernel)
theorem zE : Tryz.pinned.checked.prog.laysLater = false := by kernel_rfl
theorem uJ : Tryz.pinned.checked.prog.bearsReflect = false := by kernel_rfl
theorem BN : Tryz.pinned.checked.prog.doorFits [] = true := by kernel_rfl
theorem BO : Tryz.pinned.checked.prog.mayEnter = true := GK tP zE uJ BN
theorem xS : Tryz.pinned.checked.prog.liftsFinal = false := BM tP
theorem OX : Tryz.pinned.checked.prog.make = some .cut := VM tP
theorem uK : laidOutB Tryz.pinned.checked.prog = true := by kernel_rfl
theorem zF : mapsRowed Tryz.pinned.checked.prog = true := by kernel_rfl
theorem KN : (Tryz.pinned.checked.prog.stops == []) = true := by kernel_rfl
theorem zG : (Tryz.pinned.checked.prog.stopKnobs == []) = true := by kernel_rfl
theorem xT : Tryz.pinned.checked.prog.stopsHeard = true := by kernel_rfl

abbrev By := List UInt8
theorem kQ : ∀ a b c : By, Op.bytesLess a b = true → Op.bytesLess b c = true → Op.bytesLess a c = true
  | _, _, [], _, h => by cases ‹By› <;> cases h
  | [], _, _ :: _, _, _ => by simp [Op.bytesLess]
  | _ :: _, [], _ :: _, h, _ => by cases h
  | x :: a, y :: b, z :: c, h, k => by
    simp only [Op.bytesLess, Bool.or_eq_true, decide_eq_true_eq, Bool.and_eq_true, beq_iff_eq] at *
    rcases h with h | ⟨rfl, h⟩
    · rcases k with k | ⟨rfl, k⟩
      · left
        have h1 := UInt8.lt_iff_toNat_lt.1 h; have h2 := UInt8.lt_iff_toNat_lt.1 k
        exact UInt8.lt_iff_toNat_lt.2 (by omega)
      · exact .inl h
    · rcases k with k | ⟨rfl, k⟩
      · exact .inl k
      · exact .inr ⟨rfl, kQ a b c h k⟩
theorem pI : ∀ a b : By, Op.bytesLess a b = false → Op.bytesLess b a = false → a = b
  | [], [], _, _ => rfl
  | [], _ :: _, h, _ => by simp [Op.bytesLess] at h
  | _ :: _, [], _, h => by simp [Op.bytesLess] at h
  | x :: a, y :: b, h, k => by
    simp only [Op.bytesLess, Bool.or_eq_false_iff, decide_eq_false_iff_not, Bool.and_eq_false_iff, beq_eq_false_iff_ne] at h k
    have hxy : x = y := by
      apply UInt8.toNat_inj.1
      have h1 : ¬ x.toNat < y.toNat := fun q => h.1 (UInt8.lt_iff_toNat_lt.2 q)
      have h2 : ¬ y.toNat < x.toNat := fun q => k.1 (UInt8.lt_iff_toNat_lt.2 q)
      omega
    subst hxy
    rw [pI a b (h.2.resolve_left (fun q => q rfl)) (k.2.resolve_left (fun q => q rfl))]
theorem DU {a b : By} (h : Op.bytesLess a b = true) : a ≠ b := by rintro rfl; rw [iJ] at h; cases h
abbrev Lt (a b : By) : Prop := Op.bytesLess a b = true
def eG (a b : By) : Int := if Op.bytesLess a b then -1 else if a = b then 0 else 1
theorem pJ {a b : By} : eG a b < 0 ↔ Lt a b := by
 unfold eG Lt; cases h : Op.bytesLess a b <;> simp; split <;> omega
theorem MT {a b : By} : eG a b = 0 ↔ a = b := by
 unfold eG
 cases h : Op.bytesLess a b with
 | true => simp; exact DU h
 | false => simp only [Bool.false_eq_true, if_false]; split <;> simp_all
theorem VN {a b : By} : 0 < eG a b ↔ Lt b a := by
 unfold eG Lt
 cases h : Op.bytesLess a b with
 | true => simp; exact pH a b h
 | false =>
  simp only [Bool.false_eq_true, if_false]
  split
  ·rename_i e; subst e; simp [iJ]
  ·rename_i e
   cases k : Op.bytesLess b a with
   | true => simp
   | false => exact absurd (pI a b h k) e
section
variable {β : Type} (f : β → By)
abbrev qY (l : List β) : Prop := l.Pairwise fun p q => Lt (f p) (f q)
def kL (l : List β) (k : By) : Nat := (l.takeWhile fun p => Op.bytesLess (f p) k).length
def xA (l : List β) (k : By) : Bool := l.any fun p => f p == k
theorem jD (l : List β) (k : By) : kL f l k ≤ l.length := by
 unfold kL; exact (List.takeWhile_prefix _).length_le
variable {f}
theorem uL {l : List β} {k : By} {i : Nat} (hi : i < kL f l k) (h : i < l.length) : Lt (f l[i]) k := by
 unfold kL at hi
 have e : (l.takeWhile fun p => Op.bytesLess (f p) k)[i] = l[i] := (List.takeWhile_prefix _).getElem hi
 have hp := List.all_eq_true.1 (List.all_takeWhile (p := fun p => Op.bytesLess (f p) k) (l := l)) _ (List.getElem_mem hi)
 rw [e] at hp
 exact hp
theorem jN (p : β) (l : List β) (k : By) : kL f (p :: l) k = if Op.bytesLess (f p) k then kL f l k + 1 else 0 := by
 unfold kL
 rw [List.takeWhile_cons]
 split <;> simp
theorem uM : ∀ {l : List β} {k : By}, qY f l → ∀ {i : Nat} (_ : kL f l k ≤ i) (h : i < l.length), ¬ Lt (f l[i]) k
  | [], _, _, i, _, h => by simp at h
  | p :: l, k, hr, i, hi, h => by
    rw [jN] at hi
    rw [qY, List.pairwise_cons] at hr
    split at hi
    · rename_i hlt
      cases i with
      | zero => omega
      | succ i => exact uM hr.2 (by omega) (by simpa using h)
    · rename_i hlt
      cases i with
      | zero => simpa using hlt
      | succ i =>
        simp only [List.getElem_cons_succ]
        intro h2
        have := hr.1 (l[i]'(by simpa using h)) (List.getElem_mem _)
        exact hlt (kQ _ _ _ this h2)
theorem DV {l : List β} {k : By} {n : Nat} (hn : n ≤ l.length) (h1 : ∀ (i : Nat) (h : i < l.length), i < n → Lt (f l[i]) k) (h2 : ∀ (i : Nat) (h : i < l.length), n ≤ i → ¬ Lt (f l[i]) k) : kL f l k = n := by
 induction l generalizing n with
 | nil => simp at hn; subst hn; rfl
 | cons p l ih =>
  rw [jN]
  cases n with
  | zero =>
   have := h2 0 (by simp) (by omega)
   rw [if_neg (by simpa using this)]
  | succ n =>
   rw [if_pos (show Lt (f p) k from h1 0 (by simp) (by omega))]
   rw [ih (n := n) (by simpa using hn) (fun i h hi => by have := h1 (i + 1) (by simpa using h) (by omega); simpa using this) (fun i h hi => by have := h2 (i + 1) (by simpa using h) (by omega); simpa using this)]
theorem oL {l : List β} {k : By} : xA f l k = true ↔ ∃ p ∈ l, f p = k := by simp [xA]
theorem gN {l : List β} {k : By} (hr : qY f l) : xA f l k = true ↔ ∃ h : kL f l k < l.length, f (l[kL f l k]) = k := by
 rw [oL]
 constructor
 ·rintro ⟨p, hp, hk⟩
  obtain ⟨i, hi, rfl⟩ := List.mem_iff_getElem.1 hp
  have e : kL f l k = i := DV (Nat.le_of_lt hi) (fun j hj hji => by
   rw [← hk]; exact List.pairwise_iff_getElem.1 hr j i hj hi hji) (fun j hj hij => by
   rw [← hk]
   intro h
   rcases Nat.lt_or_eq_of_le hij with h1 | h1
   ·exact absurd (kQ _ _ _ h (List.pairwise_iff_getElem.1 hr i j hi hj h1)) (by rw [iJ]; simp)
   ·subst h1; rw [Lt, iJ] at h; cases h)
  subst e
  exact ⟨hi, hk⟩
 ·rintro ⟨h, hk⟩
  exact ⟨_, List.getElem_mem h, hk⟩
end
section
variable {α : Type}
abbrev gT (l : List (By × α)) : Prop := qY (·.1) l
abbrev aP (l : List (By × α)) (k : By) : Nat := kL (·.1) l k
abbrev eN (l : List (By × α)) (k : By) : Bool := xA (·.1) l k
def oM (l : List (By × α)) (k : By) : Option α := (l.find? fun p => p.1 == k).map (·.2)
def eH (l : List (By × α)) (k : By) (v : α) : List (By × α) := if eN l k then l.set (aP l k) (k, v) else l.take (aP l k) ++ (k, v) :: l.drop (aP l k)
def fY (l : List (By × α)) (k : By) : List (By × α) := if eN l k then l.take (aP l k) ++ l.drop (aP l k + 1) else l
def fT (l : List (By × α)) (a b : By) : List (By × α) := l.filter fun p => !Op.bytesLess p.1 a && !Op.bytesLess b p.1
end
abbrev Pr := By × By
def zH (p : Pr) : Prop := 1 ≤ p.1.length ∧ p.1.length ≤ 16 ∧ p.2.length ≤ 32
structure TreeOk (n : Nat) (l : List Pr) : Prop where
  len : l.length ≤ n
  ok : ∀ p ∈ l, zH p
  rise : gT l
section
variable {α : Type}
def BP (k : By) (v : α) : List (By × α) → List (By × α)
  | [] => [(k, v)]
  | p :: l => if Op.bytesLess p.1 k then p :: BP k v l else if p.1 = k then (k, v) :: l else (k, v) :: p :: l
def BQ (k : By) : List (By × α) → List (By × α)
  | [] => []
  | p :: l => if Op.bytesLess p.1 k then p :: BQ k l else if p.1 = k then l else p :: l
theorem uN {p : By × α} {l : List (By × α)} {k : By} (h : Lt p.1 k) : eN (p :: l) k = eN l k := by
 have := DU h
 simp [eN, xA, this]
theorem uO {p : By × α} {l : List (By × α)} {k : By} (hr : gT (p :: l)) (h : ¬ Lt p.1 k) (hne : p.1 ≠ k) : eN (p :: l) k = false := by
 cases hh : eN (p :: l) k with
 | false => rfl
 | true =>
  obtain ⟨h1, h2⟩ := (gN hr).1 hh
  have h0 : kL (·.1) (p :: l) k = 0 := by rw [jN, if_neg h]
  simp only [h0, List.getElem_cons_zero] at h2
  exact absurd h2 hne
theorem qZ (k : By) (v : α) : ∀ {l : List (By × α)}, gT l → eH l k v = BP k v l
  | [], _ => by simp [eH, eN, xA, BP]
  | p :: l, hr => by
    have hr' := (List.pairwise_cons.1 hr).2
    unfold BP
    split
    · rename_i h
      rw [← qZ k v hr']
      have hp : aP (p :: l) k = aP l k + 1 := by rw [aP, jN, if_pos h]
      unfold eH
      rw [uN h, hp]
      split <;> simp
    · rename_i h
      have hp : aP (p :: l) k = 0 := by rw [aP, jN, if_neg h]
      split
      · rename_i he
        have : eN (p :: l) k = true := oL.2 ⟨p, by simp, he⟩
        unfold eH
        rw [if_pos this, hp]
        simp
      · rename_i he
        unfold eH
        rw [uO hr h he, hp]
        simp
theorem rA (k : By) : ∀ {l : List (By × α)}, gT l → fY l k = BQ k l
  | [], _ => by simp [fY, eN, xA, BQ]
  | p :: l, hr => by
    have hr' := (List.pairwise_cons.1 hr).2
    unfold BQ
    split
    · rename_i h
      rw [← rA k hr']
      have hp : aP (p :: l) k = aP l k + 1 := by rw [aP, jN, if_pos h]
      unfold fY
      rw [uN h, hp]
      split <;> simp
    · rename_i h
      have hp : aP (p :: l) k = 0 := by rw [aP, jN, if_neg h]
      split
      · rename_i he
        have : eN (p :: l) k = true := oL.2 ⟨p, by simp, he⟩
        unfold fY
        rw [if_pos this, hp]
        simp
      · rename_i he
        unfold fY
        rw [uO hr h he]
        simp
theorem rB {k : By} {v : α} {q : By × α} : ∀ {l : List (By × α)}, q ∈ BP k v l → q = (k, v) ∨ q ∈ l
  | [], h => by simp [BP] at h; exact .inl h
  | p :: l, h => by
    unfold BP at h
    split at h
    · rcases List.mem_cons.1 h with rfl | h
      · exact .inr (by simp)
      · rcases rB h with h | h
        · exact .inl h
        · exact .inr (List.mem_cons_of_mem _ h)
    · split at h <;> simp only [List.mem_cons] at h ⊢ <;> rcases h with h | h <;> simp_all
theorem rC {k : By} {q : By × α} : ∀ {l : List (By × α)}, q ∈ BQ k l → q ∈ l
  | [], h => by simp [BQ] at h
  | p :: l, h => by
    unfold BQ at h
    split at h
    · rcases List.mem_cons.1 h with rfl | h
      · simp
      · exact List.mem_cons_of_mem _ (rC h)
    · split at h
      · exact List.mem_cons_of_mem _ h
      · exact h
theorem CH {k : By} {v : α} : ∀ {l : List (By × α)}, gT l → gT (BP k v l)
  | [], _ => by simp [BP, gT, qY]
  | p :: l, hr => by
    obtain ⟨h1, h2⟩ := List.pairwise_cons.1 hr
    unfold BP
    split
    · rename_i h
      refine List.pairwise_cons.2 ⟨fun q hq => ?_, CH h2⟩
      rcases rB hq with rfl | hq
      · exact h
      · exact h1 q hq
    · rename_i h
      split
      · rename_i he
        refine List.pairwise_cons.2 ⟨fun q hq => ?_, h2⟩
        have : Lt p.1 q.1 := h1 q hq
        rw [he] at this
        exact this
      · rename_i he
        have hk : Lt k p.1 := by
          cases hx : Op.bytesLess k p.1 with
          | true => exact hx
          | false => exact absurd (pI _ _ (by simpa using h) hx) he
        refine List.pairwise_cons.2 ⟨fun q hq => ?_, hr⟩
        rcases List.mem_cons.1 hq with rfl | hq
        · exact hk
        · exact kQ _ _ _ hk (h1 q hq)
theorem CI {k : By} : ∀ {l : List (By × α)}, gT l → gT (BQ k l)
  | [], _ => by simp [BQ, gT, qY]
  | p :: l, hr => by
    obtain ⟨h1, h2⟩ := List.pairwise_cons.1 hr
    unfold BQ
    split
    · exact List.pairwise_cons.2 ⟨fun q hq => h1 q (rC hq), CI h2⟩
    · split
      · exact h2
      · exact hr
theorem OY (p : By × α) (l : List (By × α)) (k : By) : oM (p :: l) k = if p.1 = k then some p.2 else oM l k := by
 unfold oM
 rw [List.find?_cons]
 by_cases h : p.1 = k
 ·simp [h]
 ·simp [h, beq_eq_false_iff_ne.2 h]
theorem CJ {l : List (By × α)} (hr : gT l) (k : By) (v : α) : gT (eH l k v) := by rw [qZ k v hr]; exact CH hr
theorem CK {l : List (By × α)} (hr : gT l) (k : By) : gT (fY l k) := by rw [rA k hr]; exact CI hr
theorem CL {l : List (By × α)} {k : By} : eN l k = (oM l k).isSome := by
 rw [Bool.eq_iff_iff, eN, oL, oM]
 simp [List.find?_isSome]
theorem iK (l : List (By × α)) (k : By) (v : α) : (eH l k v).length = if eN l k then l.length else l.length + 1 := by
 unfold eH
 have := jD (·.1) l k
 split
 ·simp
 ·simp only [List.length_append, List.length_take, List.length_cons, List.length_drop, aP]; omega
theorem GL {l : List (By × α)} (hr : gT l) (k : By) : (fY l k).length = if eN l k then l.length - 1 else l.length := by
 unfold fY
 split
 ·rename_i h
  obtain ⟨h1, _⟩ := (gN hr).1 h
  simp only [List.length_append, List.length_take, List.length_drop, aP] at *; omega
 ·rfl
theorem RA {l : List (By × α)} {k : By} {v : α} (h : oM l k = some v) : (k, v) ∈ l := by
 unfold oM at h
 obtain ⟨p, hp, rfl⟩ := Option.map_eq_some_iff.1 h
 have h1 := List.find?_some hp
 have h2 := List.mem_of_find?_eq_some hp
 have : p.1 = k := by simpa using h1
 rw [← this]; exact h2
theorem GM {l : List (By × α)} (hr : gT l) {p : By × α} (h : p ∈ l) : oM l p.1 = some p.2 := by
 induction l with
 | nil => simp at h
 | cons q l ih =>
  obtain ⟨h1, h2⟩ := List.pairwise_cons.1 hr
  rw [OY]
  rcases List.mem_cons.1 h with rfl | h
  ·simp
  ·rw [if_neg (DU (h1 p h)), ih h2 h]
end
theorem TreeOk.put {n m : Nat} {l : List Pr} {k v : By} (h : TreeOk n l) (hp : zH (k, v)) (hm : (eH l k v).length ≤ m) : TreeOk m (eH l k v) := by
 refine ⟨hm, fun p hp' => ?_, CJ h.rise k v⟩
 rw [qZ k v h.rise] at hp'
 rcases rB hp' with rfl | h'
 ·exact hp
 ·exact h.ok p h'
theorem TreeOk.del {n : Nat} {l : List Pr} {k : By} (h : TreeOk n l) : TreeOk n (fY l k) := by
 refine ⟨?_, fun p hp' => ?_, CK h.rise k⟩
 ·rw [GL h.rise]; have := h.len; split <;> omega
 ·rw [rA k h.rise] at hp'; exact h.ok p (rC hp')
theorem TreeOk.mono {n m : Nat} {l : List Pr} (h : TreeOk n l) (hm : n ≤ m) : TreeOk m l := ⟨Nat.le_trans h.len hm, h.ok, h.rise⟩
theorem TreeOk.nil (n : Nat) : TreeOk n [] := ⟨Nat.zero_le _, by simp, by simp [gT, qY]⟩
section
variable {α : Type}
theorem DW {l : List (By × α)} (hr : gT l) (a b : By) : fT l a b = (l.take (if eN l b then aP l b + 1 else aP l b)).drop (aP l a) := by
 have key : ∀ (i : Nat) (h : i < l.length), (i < (if eN l b then aP l b + 1 else aP l b)) ↔ Op.bytesLess b l[i].1 = false := by
  intro i h
  by_cases hh : eN l b = true
  ·rw [if_pos hh]
   obtain ⟨h1, h2⟩ := (gN hr).1 hh
   constructor
   ·intro hi
    rcases Nat.lt_or_eq_of_le (Nat.le_of_lt_succ hi) with h3 | h3
    ·exact pH _ _ (uL (f := (·.1)) h3 h)
    ·subst h3
     rw [show l[kL (·.1) l b].1 = b from h2, iJ]
   ·intro hb
    apply Nat.lt_succ_of_le
    rcases Nat.lt_or_ge (aP l b) i with h3 | h3
    ·have : Lt l[kL (·.1) l b].1 l[i].1 := List.pairwise_iff_getElem.1 hr _ _ h1 h h3
     rw [show l[kL (·.1) l b].1 = b from h2] at this
     rw [Lt, hb] at this; cases this
    ·exact h3
  ·rw [if_neg hh]
   constructor
   ·intro hi; exact pH _ _ (uL (f := (·.1)) hi h)
   ·intro hb
    rcases Nat.lt_or_ge i (aP l b) with h3 | h3
    ·exact h3
    ·have h4 := uM hr h3 h
     have := pI _ _ (by simpa using h4) hb
     exact absurd (oL.2 ⟨l[i], List.getElem_mem _, this⟩) hh
 have key2 : ∀ (i : Nat) (h : i < l.length), aP l a ≤ i ↔ Op.bytesLess l[i].1 a = false := by
  intro i h
  constructor
  ·intro hi; have := uM hr hi h; simpa using this
  ·intro hb
   rcases Nat.lt_or_ge i (aP l a) with h3 | h3
   ·have := uL (f := (·.1)) h3 h
    rw [Lt, hb] at this; cases this
   ·exact h3
 have hle : (if eN l b then aP l b + 1 else aP l b) ≤ l.length := by
  split
  ·rename_i hh
   obtain ⟨h1, _⟩ := (gN hr).1 hh
   exact h1
  ·exact jD _ _ _
 generalize (if eN l b then aP l b + 1 else aP l b) = n at *
 generalize aP l a = m at *
 clear hr
 unfold fT
 induction l generalizing n m with
 | nil => simp
 | cons p l ih =>
  rw [List.filter_cons]
  have k1 := key 0 (by simp)
  have k2 := key2 0 (by simp)
  simp only [List.getElem_cons_zero] at k1 k2
  have key' : ∀ (n' : Nat), n = n' + 1 → ∀ (i : Nat) (h : i < l.length), i < n' ↔ Op.bytesLess b l[i].1 = false := by
   rintro n' rfl i h
   have := key (i + 1) (by simpa using h)
   simpa using this
  have key2' : ∀ (i : Nat) (h : i < l.length), m - 1 ≤ i ↔ Op.bytesLess l[i].1 a = false := by
   intro i h
   have := key2 (i + 1) (by simpa using h)
   simp only [List.getElem_cons_succ] at this
   rw [← this]; omega
  cases n with
  | zero =>
   have hz : ∀ (i : Nat) (h : i < l.length), i < 0 ↔ Op.bytesLess b l[i].1 = false := by
    intro i h
    have := key (i + 1) (by simpa using h)
    simp only [List.getElem_cons_succ] at this
    rw [← this]; omega
   have := ih 0 hz (by omega) (m - 1) key2'
   simp only [List.take_zero, List.drop_nil] at this ⊢
   have hb : Op.bytesLess b p.1 = true := by
    cases hx : Op.bytesLess b p.1 with
    | true => rfl
    | false => have := k1.2 hx; omega
   simp only [hb, Bool.not_true, Bool.and_false, Bool.false_eq_true, if_false]
   exact this
  | succ n' =>
   have := ih n' (key' n' rfl) (by simpa using hle) (m - 1) key2'
   have hb := k1.1 (by omega)
   cases m with
   | zero =>
    have ha := k2.1 (by omega)
    simp only [Nat.zero_sub, List.drop_zero] at this
    simp [ha, hb, this]
   | succ m' =>
    have ha : Op.bytesLess p.1 a = true := by
     cases hx : Op.bytesLess p.1 a with
     | true => rfl
     | false => have := k2.2 hx; omega
    simp only [Nat.add_sub_cancel] at this
    simp [ha, this]
end
def at0 (S : List (BitVec 64)) (i : Nat) : BitVec 64 := S.getD i 0
def RB (S : List (BitVec 64)) (x : Nat) : BitVec 64 := at0 S x ^^^ at0 S (x + 5) ^^^ at0 S (x + 10) ^^^ at0 S (x + 15) ^^^ at0 S (x + 20)
def nN (x : BitVec 64) (n : Nat) : BitVec 64 := (x <<< n) ||| (x >>> (64 - n))
def pK (n : Nat) (f : Nat → BitVec 64) : List (BitVec 64) := (List.range n).map f
def ZH (S C : List (BitVec 64)) (i : Nat) : BitVec 64 := at0 S i ^^^ (at0 C ((i % 5 + 4) % 5) ^^^ nN (at0 C ((i % 5 + 1) % 5)) 1)
def thL (S C : List (BitVec 64)) (k : Nat) : List (BitVec 64) := pK 25 fun i => if i < k then ZH S C i else at0 S i
def uP : List Nat := [10, 7, 11, 17, 18, 3, 5, 16, 8, 21, 24, 4, 15, 23, 19, 13, 12, 2, 20, 14, 22, 9, 6, 1]
def ZI : List Nat := [1, 3, 6, 10, 15, 21, 28, 36, 45, 55, 2, 14, 27, 41, 56, 8, 25, 43, 62, 18, 39, 61, 20, 44]
def VO : List Nat := [1, 32898, 9223372036854808714, 9223372039002292224, 32907, 2147483649, 9223372039002292353, 9223372036854808585, 138, 136, 2147516425, 2147483658, 2147516555, 9223372036854775947, 9223372036854808713, 9223372036854808579, 9223372036854808578, 9223372036854775936, 32778, 9223372039002259466, 9223372039002292353, 9223372036854808704, 2147483649, 9223372039002292232]
def kM (i : Nat) : Nat := uP.getD i 0
def lU (i : Nat) : Nat := ZI.getD i 0
def wH (i : Nat) : BitVec 64 := BitVec.ofNat 64 (VO.getD i 0)
def pL (S : List (BitVec 64)) : Nat → List (BitVec 64) × BitVec 64
  | 0 => (S, at0 S 1)
  | k + 1 => let p := pL S k; (p.1.set (kM k) (nN p.2 (lU k)), at0 p.1 (kM k))
def GN (S : List (BitVec 64)) (i : Nat) : BitVec 64 := at0 S i ^^^ (~~~ (at0 S (i / 5 * 5 + (i % 5 + 1) % 5)) &&& at0 S (i / 5 * 5 + (i % 5 + 2) % 5))
def VP (S : List (BitVec 64)) : List (BitVec 64) := pK 25 (GN S)
def CM (S : List (BitVec 64)) (r : Nat) : List (BitVec 64) :=
  let a := thL S ((List.range 5).map (RB S)) 25
  let b := (pL a 24).1
  let c := VP b
  c.set 0 (at0 c 0 ^^^ wH r)
def lV (S : List (BitVec 64)) (n : Nat) : List (BitVec 64) := (List.range n).foldl CM S
def BR (b : List UInt8) : List UInt8 :=
  let p := b ++ [6]
  let q := p ++ List.replicate ((136 - p.length % 136) % 136) 0
  q.set (q.length - 1) (q.getD (q.length - 1) 0 ||| 128)
def qU (S : List (BitVec 64)) (p : List UInt8) (n : Nat) : List (BitVec 64) :=
  (List.range n).foldl (fun S i => S.set (i / 8) (at0 S (i / 8) ^^^ (BitVec.ofNat 64 (p.getD i 0).toNat <<< (i % 8 * 8)))) S
def mG (S : List (BitVec 64)) : List UInt8 → Nat → List (BitVec 64)
  | _, 0 => S
  | p, n + 1 => mG (lV (qU S p 136) 24) (p.drop 136) n
def GO (S : List (BitVec 64)) : List UInt8 := (List.range 32).map fun i => UInt8.ofNat ((at0 S (i / 8) >>> (i % 8 * 8)).toNat % 256)
def lW (b : List UInt8) : List UInt8 := GO (mG (List.replicate 25 0) (BR b) ((BR b).length / 136))
theorem zI (n : Nat) (f : Nat → BitVec 64) : (pK n f).length = n := by simp [pK]
theorem rD (b : List UInt8) : (lW b).length = 32 := by simp [lW, GO]
def Bg (p : By) : By := UInt8.ofNat (p.length / 256) :: UInt8.ofNat (p.length % 256) :: p
def ZJ (k : UInt8) (ps : List By) : By := k :: ps.flatMap Bg
def DX (k : UInt8) (ps : List By) : By := lW (ZJ k ps)

abbrev aS := List (By × List Pr)
def zJ (n : By) : Prop := 1 ≤ n.length ∧ n.length ≤ 8
structure ForestOk (m : Nat) (f : aS) : Prop where
  len : f.length ≤ 8
  name : ∀ t ∈ f, zJ t.1
  some : ∀ t ∈ f, t.2 ≠ []
  tree : ∀ t ∈ f, TreeOk m t.2
  rise : gT f
def dV (f : aS) (n : By) : List Pr := (oM f n).getD []
def tQ (f : aS) (n k : By) : Option By := oM (dV f n) k
structure Wr where
  name : By
  key : By
  gone : Bool
  value : By
structure WrOk (w : Wr) : Prop where
  name : zJ w.name
  key1 : 1 ≤ w.key.length
  key2 : w.key.length ≤ 16
  value : w.value.length ≤ 32
  gone : w.gone = true → w.value = []
def iD (w : Wr) (old : List Pr) : List Pr := if w.gone then fY old w.key else eH old w.key w.value
def fD (f : aS) (w : Wr) : Option aS :=
  let mQ := iD w (dV f w.name)
  if w.gone = false ∧ 60 < mQ.length then none
  else if mQ = [] then some (fY f w.name)
  else if 8 < (eH f w.name mQ).length then none
  else some (eH f w.name mQ)
def kR (f : aS) : List Wr → Option aS
  | [] => some f
  | w :: ws => match fD f w with
    | some g => kR g ws
    | none => none
theorem oN {m : Nat} {f : aS} (h : ForestOk m f) (n : By) : TreeOk m (dV f n) := by
 unfold dV
 cases hg : oM f n with
 | none => exact TreeOk.nil m
 | some t => exact h.tree _ (RA hg)
theorem GQ {m : Nat} {old : List Pr} (h : TreeOk m old) {w : Wr} (hw : WrOk w) : TreeOk (m + 1) (iD w old) := by
 unfold iD
 split
 ·exact h.del.mono (by omega)
 ·refine h.put ⟨hw.key1, hw.key2, hw.value⟩ ?_
  rw [iK]
  have := h.len
  split <;> omega
theorem xB {f g : aS} {w : Wr} (h : fD f w = some g) :
    (iD w (dV f w.name) = [] ∧ g = fY f w.name) ∨ (iD w (dV f w.name) ≠ [] ∧ g = eH f w.name (iD w (dV f w.name)) ∧ g.length ≤ 8) := by
 unfold fD at h
 dsimp only at h
 by_cases h1 : w.gone = false ∧ 60 < (iD w (dV f w.name)).length
 ·rw [if_pos h1] at h; cases h
 ·rw [if_neg h1] at h
  by_cases h2 : iD w (dV f w.name) = []
  ·rw [if_pos h2] at h; left; exact ⟨h2, by injection h with h; exact h.symm⟩
  ·rw [if_neg h2] at h
   by_cases h3 : 8 < (eH f w.name (iD w (dV f w.name))).length
   ·rw [if_pos h3] at h; cases h
   ·rw [if_neg h3] at h
    right
    injection h with h
    subst h
    exact ⟨h2, rfl, by omega⟩
theorem rE {m : Nat} {f : aS} (hf : ForestOk m f) {w : Wr} (hw : WrOk w) (hm : m < 60) (h : fD f w = none) : f.length = 8 ∧ eN f w.name = false ∧ w.gone = false := by
 unfold fD at h
 dsimp only at h
 have hl := (GQ (oN hf w.name) hw).len
 rw [if_neg (by omega)] at h
 by_cases h2 : iD w (dV f w.name) = []
 ·rw [if_pos h2] at h; cases h
 ·rw [if_neg h2] at h
  by_cases h3 : 8 < (eH f w.name (iD w (dV f w.name))).length
  ·rw [iK] at h3
   have := hf.len
   cases hh : eN f w.name with
   | true => rw [hh] at h3; simp at h3; omega
   | false =>
    rw [hh] at h3
    simp at h3
    refine ⟨by omega, rfl, ?_⟩
    cases hg : w.gone with
    | false => rfl
    | true =>
     exfalso
     apply h2
     have e : oM f w.name = none := by
      rw [CL] at hh
      cases hx : oM f w.name with
      | none => rfl
      | some _ => rw [hx] at hh; cases hh
     unfold iD dV
     rw [hg, e]
     rfl
  ·rw [if_neg h3] at h; cases h
theorem OZ {m : Nat} {f g : aS} (hf : ForestOk m f) {w : Wr} (hw : WrOk w) (h : fD f w = some g) : ForestOk (m + 1) g := by
 rcases xB h with ⟨h1, rfl⟩ | ⟨h1, rfl, h2⟩
 ·have hmem : ∀ t ∈ fY f w.name, t ∈ f := fun t ht => by rw [rA _ hf.rise] at ht; exact rC ht
  refine ⟨?_, fun t ht => hf.name t (hmem t ht), fun t ht => hf.some t (hmem t ht), fun t ht => (hf.tree t (hmem t ht)).mono (by omega), CK hf.rise _⟩
  rw [GL hf.rise]
  have := hf.len
  split <;> omega
 ·have hmem : ∀ t ∈ eH f w.name (iD w (dV f w.name)), t = (w.name, iD w (dV f w.name)) ∨ t ∈ f := fun t ht => by rw [qZ _ _ hf.rise] at ht; exact rB ht
  refine ⟨h2, fun t ht => ?_, fun t ht => ?_, fun t ht => ?_, CJ hf.rise _ _⟩
  ·rcases hmem t ht with rfl | ht
   ·exact hw.name
   ·exact hf.name t ht
  ·rcases hmem t ht with rfl | ht
   ·exact h1
   ·exact hf.some t ht
  ·rcases hmem t ht with rfl | ht
   ·exact GQ (oN hf _) hw
   ·exact (hf.tree t ht).mono (by omega)
theorem ForestOk.nil (m : Nat) : ForestOk m [] := ⟨by simp, by simp, by simp, by simp, by simp [gT, qY]⟩
theorem ForestOk.mono {m n : Nat} {f : aS} (h : ForestOk m f) (hm : m ≤ n) : ForestOk n f := ⟨h.len, h.name, h.some, fun t ht => (h.tree t ht).mono hm, h.rise⟩

section
variable {α : Type}
def DY (l : List (By × α)) (b : By) : Nat := if eN l b then aP l b + 1 else aP l b
theorem MU {l : List (By × α)} (hr : gT l) (b : By) : DY l b ≤ l.length := by
 unfold DY
 split
 ·rename_i h
  obtain ⟨h1, _⟩ := (gN hr).1 h
  exact h1
 ·exact jD _ _ _
theorem KO {l : List (By × α)} (hr : gT l) (a b : By) : fT l a b = (l.take (DY l b)).drop (aP l a) := DW hr a b
end

structure Rd where
  name : By
  key : By
  wide : Bool
  last : By
deriving DecidableEq
structure RdOk (r : Rd) : Prop where
  name : zJ r.name
  key : 1 ≤ r.key.length ∧ r.key.length ≤ 16
  last : if r.wide then 1 ≤ r.last.length ∧ r.last.length ≤ 16 else r.last = []
structure Tx where
  start : Int
  reads : List Rd
  writes : List Wr
def cM (a b : Wr) : Bool := a.name == b.name && a.key == b.key
theorem tR {a b : Wr} : cM a b = true ↔ a.name = b.name ∧ a.key = b.key := by simp [cM]
structure TxOk (t : Tx) : Prop where
  start : 0 ≤ t.start ∧ t.start ≤ 1048576
  nr : t.reads.length ≤ 20
  nw : t.writes.length ≤ 10
  reads : ∀ r ∈ t.reads, RdOk r
  rdiff : t.reads.Pairwise (· ≠ ·)
  writes : ∀ w ∈ t.writes, WrOk w
  wdiff : t.writes.Pairwise fun a b => cM a b = false
def iE (t : Tx) (r : Rd) : Option Tx := if r ∈ t.reads then some t else if t.reads.length = 20 then none else some { t with reads := t.reads ++ [r] }
def xU (ws : List Wr) (w : Wr) : Option Nat := ws.findIdx? fun x => cM x w
def fU (t : Tx) (w : Wr) : Option Tx := match xU t.writes w with
  | some i => some { t with writes := t.writes.set i w }
  | none => if t.writes.length = 10 then none else some { t with writes := t.writes ++ [w] }
theorem RC {t u : Tx} (h : TxOk t) {r : Rd} (hr : RdOk r) (e : iE t r = some u) : TxOk u := by
 unfold iE at e
 split at e
 ·cases e; exact h
 ·rename_i hn
  split at e
  ·cases e
  ·cases e
   have := h.nr
   refine ⟨h.start, by simp; omega, h.nw, fun x hx => ?_, ?_, h.writes, h.wdiff⟩
   ·rcases List.mem_append.1 hx with hx | hx
    ·exact h.reads x hx
    ·rw [List.mem_singleton.1 hx]; exact hr
   ·refine List.pairwise_append.2 ⟨h.rdiff, by simp, fun a ha b hb => ?_⟩
    rw [List.mem_singleton.1 hb]
    rintro rfl; exact hn ha
theorem PA {ws : List Wr} {w : Wr} {i : Nat} (h : xU ws w = some i) : ∃ hi : i < ws.length, cM ws[i] w = true := by
 unfold xU at h
 obtain ⟨h1, h2, _⟩ := List.findIdx?_eq_some_iff_getElem.1 h
 exact ⟨h1, h2⟩
theorem PB {ws : List Wr} {w : Wr} (h : xU ws w = none) : ∀ x ∈ ws, cM x w = false := by
 unfold xU at h
 simpa using List.findIdx?_eq_none_iff.1 h
theorem uQ {a b c : Wr} (h : cM a b = true) : cM a c = cM b c := by
 obtain ⟨h1, h2⟩ := tR.1 h
 unfold cM; rw [h1, h2]
theorem xC (a b : Wr) : cM a b = cM b a := by
 rw [Bool.eq_iff_iff, tR, tR]; exact ⟨fun h => ⟨h.1.symm, h.2.symm⟩, fun h => ⟨h.1.symm, h.2.symm⟩⟩
theorem RD {ws : List Wr} {w : Wr} {i : Nat} (hi : i < ws.length) (hs : cM ws[i] w = true) (h : ws.Pairwise fun a b => cM a b = false) : (ws.set i w).Pairwise fun a b => cM a b = false := by
 rw [List.pairwise_iff_getElem] at h ⊢
 intro a b ha hb hab
 simp only [List.length_set] at ha hb
 have h0 := h a b ha hb hab
 rw [List.getElem_set, List.getElem_set]
 split
 ·rename_i e; subst e
  rw [if_neg (by omega), ← uQ hs]; exact h0
 ·split
  ·rename_i e; subst e
   rw [xC, ← uQ hs, xC]; exact h0
  ·exact h0
theorem PC {t u : Tx} (h : TxOk t) {w : Wr} (hw : WrOk w) (e : fU t w = some u) : TxOk u := by
 unfold fU at e
 split at e
 ·rename_i i hi
  cases e
  obtain ⟨h1, h2⟩ := PA hi
  refine ⟨h.start, h.nr, by simpa using h.nw, h.reads, h.rdiff, fun x hx => ?_, RD h1 h2 h.wdiff⟩
  rcases List.mem_or_eq_of_mem_set hx with hx | rfl
  ·exact h.writes x hx
  ·exact hw
 ·rename_i hi
  split at e
  ·cases e
  ·cases e
   have := h.nw
   refine ⟨h.start, h.nr, by simp; omega, h.reads, h.rdiff, fun x hx => ?_, ?_⟩
   ·rcases List.mem_append.1 hx with hx | hx
    ·exact h.writes x hx
    ·rw [List.mem_singleton.1 hx]; exact hw
   ·refine List.pairwise_append.2 ⟨h.wdiff, by simp, fun a ha b hb => ?_⟩
    rw [List.mem_singleton.1 hb]
    exact PB hi a ha
theorem KP {t u : Tx} {w : Wr} (e : fU t w = some u) : u.writes.length ≤ t.writes.length + 1 ∧ u.reads = t.reads ∧ u.start = t.start ∧ t.writes.length ≤ u.writes.length := by
 unfold fU at e
 split at e
 ·cases e; simp
 ·split at e
  ·cases e
  ·cases e; simp
theorem sL {t u : Tx} {r : Rd} (e : iE t r = some u) : u.reads.length ≤ t.reads.length + 1 ∧ u.writes = t.writes ∧ u.start = t.start := by
 unfold iE at e
 split at e
 ·cases e; simp
 ·split at e
  ·cases e
  ·cases e; simp
def ZK (ws : List Wr) (n k : By) : Option Wr := ws.find? fun w => w.name == n && w.key == k
def cD (f : aS) (t : Tx) (n k : By) : Option By × Bool := match ZK t.writes n k with
  | some w => (if w.gone then none else some w.value, true)
  | none => (tQ f n k, false)
def inR (n a b : By) (w : Wr) : Bool := w.name == n && !Op.bytesLess w.key a && !Op.bytesLess b w.key
def oO (n a b : By) (l : List Pr) (w : Wr) : Option (List Pr) := if inR n a b w then (if w.gone = false ∧ 60 < (iD w l).length then none else some (iD w l)) else some l
def gO (n a b : By) (l : List Pr) : List Wr → Option (List Pr)
  | [] => some l
  | w :: ws => match oO n a b l w with
    | some m => gO n a b m ws
    | none => none
def GR (f : aS) (t : Tx) (n a b : By) : Option (List Pr) := gO n a b (fT (dV f n) a b) t.writes
theorem GS {α : Type} {l : List (By × α)} (hr : gT l) (a b : By) : gT (fT l a b) := List.Pairwise.filter _ hr
theorem TreeOk.range {n : Nat} {l : List Pr} (h : TreeOk n l) (a b : By) : TreeOk n (fT l a b) :=
  ⟨Nat.le_trans (List.length_filter_le _ _) h.len, fun p hp => h.ok p (List.mem_filter.1 hp).1, GS h.rise a b⟩
def dY (r : Rd) (w : Wr) : Bool := r.name == w.name && (if r.wide then !Op.bytesLess w.key r.key && !Op.bytesLess r.last w.key else r.key == w.key)

def Bh (p : Pr) : By := DX 1 [p.1, p.2]
def RE (bit : Nat) (a b : By) : By := DX 2 [[UInt8.ofNat bit], a, b]
def DZ (l : List Pr) : Nat := match l.head?, l.getLast? with
  | some p, some q => (Bf p.1 q.1).toNat
  | _, _ => 0
def MV (bit : Nat) (l : List Pr) : Nat := (l.takeWhile fun p => !OS p.1 bit).length
def RF : Nat → List Pr → By
  | 0, _ => DX 0 []
  | _ + 1, [] => DX 0 []
  | _ + 1, [p] => Bh p
  | n + 1, p :: q :: l => RE (DZ (p :: q :: l)) (RF n ((p :: q :: l).take (MV (DZ (p :: q :: l)) (p :: q :: l)))) (RF n ((p :: q :: l).drop (MV (DZ (p :: q :: l)) (p :: q :: l))))
def RG (l : List Pr) : By := RF l.length l
structure KeysOk (l : List Pr) : Prop where
  key : ∀ p ∈ l, 1 ≤ p.1.length ∧ p.1.length ≤ 16
  rise : gT l
theorem KeysOk.sub {l m : List Pr} (h : KeysOk l) (hs : m.Sublist l) : KeysOk m := ⟨fun p hp => h.key p (hs.subset hp), h.rise.sublist hs⟩
theorem TreeOk.keys {n : Nat} {l : List Pr} (h : TreeOk n l) : KeysOk l := ⟨fun p hp => ⟨(h.ok p hp).1, (h.ok p hp).2.1⟩, h.rise⟩

structure Stp where
  bit : Nat
  right : Bool
  other : By
def YV (bit : Nat) (r : Bool) (l : List Pr) : List Pr := if r then l.drop (MV bit l) else l.take (MV bit l)
def KQ : Nat → List Pr → By → List Stp × Pr
  | 0, l, _ => ([], l.headD ([], []))
  | n + 1, l, k => if l.length ≤ 1 then ([], l.headD ([], [])) else
    let q := KQ n (YV (DZ l) (OS k (DZ l)) l) k
    (⟨DZ l, OS k (DZ l), RG (YV (DZ l) (!OS k (DZ l)) l)⟩ :: q.1, q.2)
def up1 (s : Stp) (d : By) : By := if s.right then RE s.bit s.other d else RE s.bit d s.other
structure Prf where
  empty : Bool
  steps : List Stp
  pair : Pr
def RH (l : List Pr) (k : By) : Prf := if l = [] then ⟨true, [], ([], [])⟩ else ⟨false, (KQ l.length l k).1, (KQ l.length l k).2⟩

def b8 (n : Nat) : UInt8 := UInt8.ofNat n
theorem lH {n : Nat} (h : n < 256) : (b8 n).toNat = n := by simp [b8]; omega
theorem MW (x : UInt8) : b8 x.toNat = x := by simp [b8]
def cZ (p : By) : By := b8 p.length :: p
def jS (w : Wr) : By := cZ w.name ++ (cZ w.key ++ if w.gone then [255] else cZ w.value)
def eB (turn : Nat) (ws : List Wr) : By := b8 (turn / 65536) :: b8 (turn / 256) :: b8 turn :: b8 ws.length :: ws.flatMap jS
structure Rr where
  rest : By
  short : Bool
def jT (n : Nat) (r : Rr) : By × Rr := if r.short = true ∨ r.rest.length < n then (List.replicate n 0, ⟨r.rest, true⟩) else (r.rest.take n, ⟨r.rest.drop n, false⟩)
def jE (r : Rr) : Nat × Rr := (((jT 1 r).1.headD 0).toNat, (jT 1 r).2)
def CN (r : Rr) : By × Rr := jT (jE r).1 (jE r).2
def wrR (r : Rr) : Wr × Rr :=
  let a := CN r
  let b := CN a.2
  let c := jE b.2
  if c.1 = 255 then (⟨a.1, b.1, true, []⟩, c.2) else let d := jT c.1 c.2; (⟨a.1, b.1, false, d.1⟩, d.2)
def pM : Nat → Rr → List Wr × Rr
  | 0, r => ([], r)
  | n + 1, r => let a := wrR r; let b := pM n a.2; (a.1 :: b.1, b.2)
structure Reads {α : Type} (f : Rr → α × Rr) : Prop where
  more : ∀ b t, (f ⟨b, false⟩).2.short = false → f ⟨b ++ t, false⟩ = ((f ⟨b, false⟩).1, ⟨(f ⟨b, false⟩).2.rest ++ t, false⟩)
  short : ∀ r, r.short = true → (f r).2.short = true
theorem Reads.map {α β : Type} {f : Rr → α × Rr} (hf : Reads f) (g : α → β) : Reads fun r => (g (f r).1, (f r).2) := by
 refine ⟨fun b t h => ?_, fun r h => hf.short r h⟩
 rw [hf.more b t h]
set_option linter.unusedVariables false
def cmR (r : Rr) : (Nat × List Wr) × Rr :=
  let x := jE r
  let y := jE x.2
  let z := jE y.2
  let n := jE z.2
  let l := pM n.1 n.2
  ((x.1 * 65536 + y.1 * 256 + z.1, l.1), l.2)
theorem CO (p t : By) : jT p.length ⟨p ++ t, false⟩ = (p, ⟨t, false⟩) := by unfold jT; simp
theorem pO (x : UInt8) (t : By) : jE ⟨x :: t, false⟩ = (x.toNat, ⟨t, false⟩) := by unfold jE jT; simp
theorem CP (p t : By) (h : p.length < 256) : CN ⟨cZ p ++ t, false⟩ = (p, ⟨t, false⟩) := by
 unfold CN cZ
 rw [List.cons_append, pO, lH h]
 exact CO p t
theorem VQ (w : Wr) (t : By) (h : WrOk w) : wrR ⟨jS w ++ t, false⟩ = (w, ⟨t, false⟩) := by
 have h1 := h.name.2
 have h2 := h.key2
 have h3 := h.value
 unfold wrR jS
 simp only [List.append_assoc]
 rw [CP _ _ (by omega)]
 simp only
 rw [CP _ _ (by omega)]
 simp only
 cases hg : w.gone with
 | true =>
  simp only [if_true, List.cons_append, List.nil_append, pO]
  rw [if_pos (show ((255 : UInt8).toNat = 255) from rfl)]
  have := h.gone hg
  cases w; simp_all
 | false =>
  simp only [Bool.false_eq_true, if_false, cZ, List.cons_append, pO]
  rw [lH (by omega), if_neg (by omega), CO]
  cases w; simp_all
theorem GT : ∀ (ws : List Wr) (t : By), (∀ w ∈ ws, WrOk w) → pM ws.length ⟨ws.flatMap jS ++ t, false⟩ = (ws, ⟨t, false⟩)
  | [], t, _ => rfl
  | w :: ws, t, h => by
    simp only [List.length_cons, pM, List.flatMap_cons, List.append_assoc]
    rw [VQ w _ (h w (by simp))]
    simp only
    rw [GT ws t (fun x hx => h x (by simp [hx]))]
theorem VR (turn : Nat) (ws : List Wr) (t : By) (h : ∀ w ∈ ws, WrOk w) (hl : ws.length < 256) (ht : turn < 16777216) : cmR ⟨eB turn ws ++ t, false⟩ = ((turn, ws), ⟨t, false⟩) := by
 unfold cmR eB
 simp only [List.cons_append, pO]
 rw [lH hl, GT ws t h, lH (by omega)]
 have e1 : (b8 (turn / 256)).toNat = turn / 256 % 256 := by simp [b8]
 have e2 : (b8 turn).toNat = turn % 256 := by simp [b8]
 rw [e1, e2]
 congr 2
 omega
theorem PD {w : Wr} (h : w.gone = true → w.value = []) : (jS w).length = 3 + w.name.length + w.key.length + w.value.length := by
 unfold jS cZ
 cases hg : w.gone with
 | true => simp [h hg]; omega
 | false => simp; omega

def hH : By → Option (By × By)
  | [] => none
  | x :: t => if t.length < x.toNat then none else some (t.take x.toNat, t.drop x.toNat)
theorem pQ (x : UInt8) (t : By) : hH (x :: t) = if t.length < x.toNat then none else some (t.take x.toNat, t.drop x.toNat) := rfl
def wI (c : Bool) (b : By) : Option (By × By) := if c then hH b else some ([], b)
structure Rq where
  name : By
  key : By
  last : By
  value : By
def mS (h : Nat) (b : By) : Option (Rq × By) :=
  match wI (h.testBit 0) b with
  | none => none
  | some n => match wI (h.testBit 1) n.2 with
    | none => none
    | some k => match wI (h.testBit 2) k.2 with
      | none => none
      | some l => match wI (h.testBit 3) l.2 with
        | none => none
        | some v => some (⟨n.1, k.1, l.1, v.1⟩, v.2)
def wJ (c : Bool) (p : By) : By := if c then cZ p else []
def EA (h : Nat) (r : Rq) : By := wJ (h.testBit 0) r.name ++ (wJ (h.testBit 1) r.key ++ (wJ (h.testBit 2) r.last ++ wJ (h.testBit 3) r.value))
theorem PE (p t : By) (h : p.length < 256) : hH (cZ p ++ t) = some (p, t) := by
 unfold cZ
 rw [List.cons_append, pQ, lH h, if_neg (by simp)]
 simp
theorem uR {c : Bool} {p t : By} (h : p.length < 256) (hc : c = false → p = []) : wI c (wJ c p ++ t) = some (p, t) := by
 unfold wI wJ
 cases c with
 | true => exact PE p t h
 | false => rw [hc rfl]; rfl
structure FitsW (h : Nat) (r : Rq) : Prop where
  name : r.name.length < 256 ∧ (h.testBit 0 = false → r.name = [])
  key : r.key.length < 256 ∧ (h.testBit 1 = false → r.key = [])
  last : r.last.length < 256 ∧ (h.testBit 2 = false → r.last = [])
  value : r.value.length < 256 ∧ (h.testBit 3 = false → r.value = [])
theorem RI {h : Nat} {r : Rq} (hf : FitsW h r) (t : By) : mS h (EA h r ++ t) = some (r, t) := by
 unfold mS EA
 simp only [List.append_assoc]
 rw [uR hf.name.1 hf.name.2]; simp only
 rw [uR hf.key.1 hf.key.2]; simp only
 rw [uR hf.last.1 hf.last.2]; simp only
 rw [uR hf.value.1 hf.value.2]
theorem PF {b : By} {p : By × By} (h : hH b = some p) : b = cZ p.1 ++ p.2 ∧ p.1.length < 256 := by
 cases b with
 | nil => cases h
 | cons x b =>
  rw [pQ] at h
  by_cases hl : b.length < x.toNat
  ·rw [if_pos hl] at h; cases h
  ·rw [if_neg hl] at h
   cases h
   have hx := UInt8.toNat_lt x
   have e : (b.take x.toNat).length = x.toNat := by simp; omega
   unfold cZ
   rw [e, MW]
   exact ⟨by simp, hx⟩
theorem uS {c : Bool} {b : By} {p : By × By} (h : wI c b = some p) : b = wJ c p.1 ++ p.2 ∧ p.1.length < 256 ∧ (c = false → p.1 = []) := by
 unfold wI wJ at *
 cases c with
 | true => obtain ⟨h1, h2⟩ := PF h; exact ⟨h1, h2, fun k => by cases k⟩
 | false => cases h; exact ⟨rfl, by simp, fun _ => rfl⟩
theorem RJ {h : Nat} {b : By} {p : Rq × By} (e : mS h b = some p) : b = EA h p.1 ++ p.2 ∧ FitsW h p.1 := by
 unfold mS at e
 cases e0 : wI (h.testBit 0) b with
 | none => rw [e0] at e; cases e
 | some n =>
  rw [e0] at e; simp only at e
  cases e1 : wI (h.testBit 1) n.2 with
  | none => rw [e1] at e; cases e
  | some k =>
   rw [e1] at e; simp only at e
   cases e2 : wI (h.testBit 2) k.2 with
   | none => rw [e2] at e; cases e
   | some l =>
    rw [e2] at e; simp only at e
    cases e3 : wI (h.testBit 3) l.2 with
    | none => rw [e3] at e; cases e
    | some v =>
     rw [e3] at e; simp only at e
     cases e
     obtain ⟨i0, j0⟩ := uS e0
     obtain ⟨i1, j1⟩ := uS e1
     obtain ⟨i2, j2⟩ := uS e2
     obtain ⟨i3, j3⟩ := uS e3
     refine ⟨?_, j0, j1, j2, j3⟩
     unfold EA
     simp only [List.append_assoc]
     rw [← i3, ← i2, ← i1]
     exact i0

structure Cm where
  turn : Nat
  writes : List Wr
def rF (f : aS) : List Cm → Option aS
  | [] => some f
  | c :: cs => match kR f c.writes with
    | some g => rF g cs
    | none => none
def qO (cs : List Cm) : Nat := (cs.map fun c => c.writes.length).sum
structure CmOk (c : Cm) : Prop where
  turn : 1 ≤ c.turn ∧ c.turn ≤ 1048576
  some : 1 ≤ c.writes.length ∧ c.writes.length ≤ 10
  ok : ∀ w ∈ c.writes, WrOk w
structure HistOk (m : Nat) (cs : List Cm) : Prop where
  turn : ∀ (i : Nat) (h : i < cs.length), cs[i].turn = i + 1
  ok : ∀ c ∈ cs, CmOk c
  size : qO cs ≤ m
  fits : ∃ f, rF [] cs = some f
theorem uT (f : aS) (a b : List Cm) : rF f (a ++ b) = match rF f a with | some g => rF g b | none => none := by
 induction a generalizing f with
 | nil => rfl
 | cons c a ih =>
  simp only [List.cons_append, rF]
  cases kR f c.writes with
  | none => rfl
  | some g => exact ih g
theorem pR (a b : List Cm) : qO (a ++ b) = qO a + qO b := by simp [qO]
def kA (cs : List Cm) (k : Nat) : aS := (rF [] (cs.take k)).getD []
theorem zK {m : Nat} {cs : List Cm} (h : HistOk m cs) (k : Nat) : rF [] (cs.take k) = some (kA cs k) := by
 obtain ⟨f, hf⟩ := h.fits
 rw [← List.take_append_drop k cs, uT] at hf
 unfold kA
 cases e : rF [] (cs.take k) with
 | none => rw [e] at hf; cases hf
 | some g => rfl
theorem HistOk.take {m : Nat} {cs : List Cm} (h : HistOk m cs) (k : Nat) : HistOk m (cs.take k) := by
 refine ⟨fun i hi => by rw [List.getElem_take]; exact h.turn i _, fun c hc => h.ok c (List.mem_of_mem_take hc), ?_, ⟨_, zK h k⟩⟩
 have h2 := h.size
 rw [← List.take_append_drop k cs, pR] at h2
 omega
theorem zL {cs : List Cm} {k n : Nat} (h : n ≤ k) : kA (cs.take k) n = kA cs n := by
 unfold kA; rw [List.take_take, Nat.min_eq_left h]
theorem HistOk.nil (m : Nat) : HistOk m [] := ⟨by simp, by simp, by simp [qO], ⟨[], rfl⟩⟩
theorem HistOk.snoc {m n : Nat} {cs : List Cm} (h : HistOk m cs) {ws : List Wr} (hw : ∀ w ∈ ws, WrOk w) (h1 : 1 ≤ ws.length) (h2 : ws.length ≤ 10) (hm : m + ws.length ≤ n) (hl : cs.length < 1048576) {g : aS} (hg : kR (kA cs cs.length) ws = some g) :
    HistOk n (cs ++ [⟨cs.length + 1, ws⟩]) ∧ kA (cs ++ [⟨cs.length + 1, ws⟩]) (cs.length + 1) = g := by
 have hs := zK h cs.length
 rw [List.take_length] at hs
 have hf : rF [] (cs ++ [⟨cs.length + 1, ws⟩]) = some g := by rw [uT, hs]; simp [rF, hg]
 refine ⟨⟨fun i hi => ?_, fun c hc => ?_, ?_, ⟨g, hf⟩⟩, ?_⟩
 ·rw [List.getElem_append]
  split
  ·rename_i h'; exact h.turn i h'
  ·have : i = cs.length := by simp at hi; omega
   subst this; simp
 ·rcases List.mem_append.1 hc with hc | hc
  ·exact h.ok c hc
  ·rw [List.mem_singleton.1 hc]; exact ⟨⟨by simp, by simp; omega⟩, ⟨h1, h2⟩, hw⟩
 ·rw [pR]; have := h.size; simp [qO] at *; omega
 ·unfold kA
  rw [List.take_of_length_le (by simp), hf]; rfl
def wK (start : Int) (rs : List Rd) (cs : List Cm) : Bool := cs.any fun c => decide (start < c.turn) && c.writes.any fun w => rs.any fun r => dY r w

theorem Gr.grown {w w1 w2 : World} {F F1 : Fz} {row : Option Nat} (h : Gr w F w1 F1) (hg : w1.grownBy w2 row) (hr : ∀ g, row = some g → w.heap.size ≤ g ∧ F1 g = none) : Gr w F w2 F1 :=
  ⟨h.below.grown hg h.below.size (fun k hk => (hr k hk).1), h.old, h.sat.grown hg (fun k hk => (hr k hk).2)⟩
theorem Gr.none {w w' : World} {F F' : Fz} (h : Gr w F w' F') {g : Nat} (hg : g < w.heap.size) (hn : F g = none) : F' g = none := by rw [h.old g hg]; exact hn
structure Own {α : Type} (k : Nat) (R : Fz → List Value → α → Prop) (E base : Nat) (w : World) (F : Fz) (v : Value) (l : List α) : Prop where
  ex : ∃ el : List (List Value), w.ownsRow base E k v l.length el.flatten ∧ AllR (R F) el l ∧ ∀ x ∈ el, x.length = k
  out : ∀ g, v.ownBlock = some g → F g = none
section
variable {α : Type} {k E base : Nat} {R : Fz → List Value → α → Prop} {w w' : World} {F F' : Fz} {v : Value} {l : List α}
theorem Own.nil (w : World) (F : Fz) : Own k R E base w F (.slice none 0 0) [] := ⟨⟨[], World.ownsRow_nil w base E k, trivial, by simp⟩, fun g h => by cases h⟩
theorem Own.lt (h : Own k R E base w F v l) : ∀ g, v.ownBlock = some g → base ≤ g ∧ g < w.heap.size := by
 obtain ⟨el, h1, _⟩ := h.ex
 exact h1.lt
theorem Own.shape (h : Own k R E base w F v l) : ∃ a c, v = .slice a l.length c ∧ l.length ≤ c ∧ c ≤ maxLen := by
 obtain ⟨el, ⟨_, h2⟩, _⟩ := h.ex
 rcases h2 with ⟨rfl, h0⟩ | ⟨g, cap, cur, rfl, _, _, h3, h4, _⟩
 ·exact ⟨none, 0, by rw [h0], by omega, Nat.zero_le _⟩
 ·exact ⟨_, cap, rfl, h3, h4⟩
theorem Own.mono (hR : ∀ F F' x p, Le F F' → R F x p → R F' x p) (h : Own k R E base w F v l) (hl : Le F F') (ho : ∀ g, v.ownBlock = some g → F' g = none) : Own k R E base w F' v l := by
 obtain ⟨el, h1, h2, h3⟩ := h.ex
 exact ⟨⟨el, h1, h2.imp fun x p => hR _ _ x p hl, h3⟩, ho⟩
theorem Own.gr (hR : ∀ F F' x p, Le F F' → R F x p → R F' x p) (h : Own k R E base w F v l) (hs : Sat w F) (g : Gr w F w' F') : Own k R E base w' F' v l := by
 obtain ⟨el, h1, h2, h3⟩ := h.ex
 have hlt := h1.lt
 refine ⟨⟨el, ?_, h2.imp fun x p => hR _ _ x p (g.le hs), h3⟩, fun b hb => g.none (hlt b hb).2 (h.out b hb)⟩
 obtain ⟨e1, e2⟩ := h1
 refine ⟨e1, e2.imp id ?_⟩
 rintro ⟨b, cap, cur, q1, q2, q3, q4⟩
 subst q1
 exact ⟨b, cap, cur, rfl, q2, (g.below.block b (hlt b rfl).2).trans q3, q4⟩
theorem Own.alloc (h : Own k R E base w F v l) (o : Obj) : Own k R E base (w.alloc o) F v l := by
 obtain ⟨el, h1, h2, h3⟩ := h.ex
 exact ⟨⟨el, h1.alloc o, h2, h3⟩, h.out⟩
theorem Own.drew (h : Own k R E base w F v l) : Own k R E base w.drew F v l := ⟨h.ex, h.out⟩
theorem Own.set (h : Own k R E base w F v l) (a : Addr) (u : Value) (ha : v.ownBlock ≠ some a.block) : Own k R E base (w.setCell a u) F v l := by
 obtain ⟨el, ⟨e1, e2⟩, h2, h3⟩ := h.ex
 refine ⟨⟨el, ⟨e1, e2.imp id ?_⟩, h2, h3⟩, h.out⟩
 rintro ⟨b, cap, cur, q1, q2, q3, q4⟩
 subst q1
 exact ⟨b, cap, cur, rfl, q2, BL q3 (fun e => ha (by rw [e]; rfl)) u, q4⟩
theorem Own.rebase {base' : Nat} (h : Own k R E base w F v l) (hb : ∀ g, v.ownBlock = some g → base' ≤ g) : Own k R E base' w F v l := by
 obtain ⟨el, ⟨e1, e2⟩, h2, h3⟩ := h.ex
 refine ⟨⟨el, ⟨e1, e2.imp id ?_⟩, h2, h3⟩, h.out⟩
 rintro ⟨b, cap, cur, q1, q2, q3, q4⟩
 subst q1
 exact ⟨b, cap, cur, rfl, hb b rfl, q3, q4⟩
theorem zM {xs : List Value} {n : Nat} (h : w.ownsRow base E k v n xs) (hs : Sat w F) : ∃ g, Rw (addF F w g) v n xs ∧ (base ≤ g ∨ addF F w g = F) := by
 obtain ⟨g, q1, q2⟩ := Rw.of_owns h hs
 rcases q2 with rfl | q2
 ·obtain ⟨e1, ⟨_, e2⟩ | ⟨_, _, _, e2, _⟩⟩ := h
  ·subst e2
   have : xs = [] := List.eq_nil_of_length_eq_zero (by simpa using e1)
   subst this
   refine ⟨w.heap.size, Rw.nil _, .inr ?_⟩
   funext b
   unfold addF
   cases hb : F b with
   | none =>
    simp only []
    split
    ·rename_i e; subst e; simp
    ·rfl
   | some o => rfl
  ·cases e2
 ·exact ⟨g, q1, .inl q2⟩
theorem Own.freeze (hR : ∀ F F' x p, Le F F' → R F x p → R F' x p) {w0 : World} {F0 : Fz} (h : Own k R E base w F v l) (g : Gr w0 F0 w F) (hb : w0.heap.size ≤ base) : ∃ F', Gr w0 F0 w F' ∧ Le F F' ∧ Sl k R F' v l := by
 obtain ⟨el, h1, h2, h3⟩ := h.ex
 obtain ⟨b, q1, q2⟩ := zM h1 g.sat
 have hle : Le F (addF F w b) := fun b' o hb' => uH _ _ _ _ _ hb'
 refine ⟨_, ?_, hle, el, q1, h2.imp fun x p => hR _ _ x p hle, h3⟩
 rcases q2 with q2 | q2
 ·exact g.add (Nat.le_trans hb q2)
 ·rw [q2]; exact g
theorem Own.peek (hR : ∀ F F' x p, Le F F' → R F x p → R F' x p) (h : Own k R E base w F v l) (hs : Sat w F) : ∃ F', Sat w F' ∧ Le F F' ∧ Sl k R F' v l := by
 obtain ⟨el, h1, h2, h3⟩ := h.ex
 obtain ⟨b, q1, q2⟩ := zM h1 hs
 have hle : Le F (addF F w b) := fun b' o hb' => uH _ _ _ _ _ hb'
 exact ⟨_, hs.addF b, hle, el, q1, h2.imp fun x p => hR _ _ x p hle, h3⟩
end
def PrC (F : Fz) (cs : List Value) (p : List UInt8 × List UInt8) : Prop := ∃ a b, cs = [a, b] ∧ Bs F a p.1 ∧ Bs F b p.2
theorem PrC.mono (F F' : Fz) (x : List Value) (p : List UInt8 × List UInt8) (hl : Le F F') (h : PrC F x p) : PrC F' x p := by
 obtain ⟨a, b, h1, h2, h3⟩ := h
 exact ⟨a, b, h1, h2.mono hl, h3.mono hl⟩
abbrev Prs (F : Fz) (v : Value) (l : List (List UInt8 × List UInt8)) : Prop := Sl 2 PrC F v l
theorem Bs.oneCell {F : Fz} {v : Value} {l : List UInt8} (h : Bs F v l) : v.oneCell' = true := by
 obtain ⟨a, c, rfl, _⟩ := h.shape; rfl
theorem PrC.oneCell {F : Fz} {cs : List Value} {p : List UInt8 × List UInt8} (h : PrC F cs p) : ∀ u ∈ cs, u.oneCell' = true := by
 obtain ⟨a, b, rfl, h2, h3⟩ := h
 intro u hu
 rcases List.mem_cons.1 hu with rfl | hu
 ·exact h2.oneCell
 ·rw [List.mem_singleton.1 hu]; exact h3.oneCell
theorem Prs.at {F : Fz} {a : Option Addr} {n c : Nat} {l : List (List UInt8 × List UInt8)} (h : Prs F (.slice a n c) l) (hn : 0 < n) :
    ∃ b o, a = some ⟨b, o, none⟩ ∧ ∀ (i : Nat) (hi : i < l.length), ∃ x y, bI F b (o + i * 2) = some x ∧ bI F b (o + i * 2 + 1) = some y ∧ Bs F x l[i].1 ∧ Bs F y l[i].2 := by
 obtain ⟨b, o, e, h1⟩ := Sl.at h (by omega) hn
 refine ⟨b, o, e, fun i hi => ?_⟩
 obtain ⟨cs, q1, ⟨x, y, rfl, q2, q3⟩, q4⟩ := h1 i hi
 refine ⟨x, y, ?_, ?_, q2, q3⟩
 ·have := q4 0 (by simp); simpa using this
 ·have := q4 1 (by simp); simpa [Nat.add_assoc] using this
theorem Sl.len {α : Type} {k : Nat} {R : Fz → List Value → α → Prop} {F : Fz} {a : Option Addr} {n c : Nat} {l : List α} (h : Sl k R F (.slice a n c) l) : n = l.length := by
 obtain ⟨a', c', h1, _⟩ := h.shape
 cases h1; rfl
end Go.Proofs.YtilgpdpooildcaaGreatDoor
