/- Rules, plain laws and walks: A B M1 R G B2 J P1 D0 P2 P3 P4 -/
import Derived.Test.YtilgpdpooildcaaGreatDoorRows
import Derived.WalkKit
import Derived.WalkSpells
import Derived.WalkLawsBesides
import Derived.Deep.QuietTactic
import Derived.BigQuiet
import Derived.ProofKit
import Derived.OpenShut
import Derived.ShutString
import Derived.ChangeOld
import Derived.Deep.Slices
import Derived.StillTail
import Derived.JoinedOf
namespace Go.Proofs.YtilgpdpooildcaaGreatDoor
set_option maxHeartbeats 8000000
open Go.RowKit

theorem hid {p : Prop} (h : p) : Hid p := h

abbrev Fz := Nat → Option Obj
def Sat (w : World) (F : Fz) : Prop := ∀ b o, F b = some o → w.heap[b]? = some o
def bM (F : Fz) (b off : Nat) : Option Value :=
  match F b with
  | some (.cells c _ _) => c[off]?
  | _ => none
theorem Sat.lt {w : World} {F : Fz} (h : Sat w F) {b : Nat} {o : Obj} (hb : F b = some o) : b < w.heap.size :=
  (Array.getElem?_eq_some_iff.1 (h b o hb)).1
theorem Sat.out {w : World} {F : Fz} (h : Sat w F) {b : Nat} (hb : w.heap.size ≤ b) : F b = none := by
 cases hc : F b with
 | none => rfl
 | some o => have := h.lt hc; omega
theorem Sat.cell {w : World} {F : Fz} (h : Sat w F) {b o : Nat} {v : Value} (hc : bM F b o = some v) : w.cell? ⟨b, o, none⟩ = some v := by
 unfold bM at hc
 split at hc
 ·rename_i c t fr hb
  simp [World.cell?, h b _ hb, hc]
 ·cases hc
theorem Sat.below {w w' : World} {F : Fz} (h : Sat w F) (hb : Below w.heap.size w w') : Sat w' F := fun b o hf => by
  rw [hb.block b (h.lt hf)]; exact h b o hf
theorem Sat.alloc {w : World} {F : Fz} (h : Sat w F) (o : Obj) : Sat (w.alloc o) F := fun b x hf => by
  rw [Below.heap_alloc w o b (h.lt hf)]; exact h b x hf
theorem Sat.drew {w : World} {F : Fz} (h : Sat w F) : Sat w.drew F := h
theorem Sat.setCell {w : World} {F : Fz} (h : Sat w F) {a : Addr} (ha : F a.block = none) (u : Value) : Sat (w.setCell a u) F := fun b x hf => by
  rw [Below.heap_setCell w a u b (fun e => by rw [e, ha] at hf; cases hf)]; exact h b x hf
theorem Sat.grown {w w' : World} {F : Fz} (h : Sat w F) {row : Option Nat} (hg : w.grownBy w' row) (hr : ∀ k, row = some k → F k = none) : Sat w' F := fun b x hf => by
  rw [hg.block b (h.lt hf) (fun e => by rw [hr b e.symm] at hf; cases hf)]; exact h b x hf
def whole (w : World) : Fz := fun b => w.heap[b]?
theorem Sat.whole (w : World) : Sat w (whole w) := fun _ _ h => h
def addF (F : Fz) (w : World) (g : Nat) : Fz := fun b => match F b with | some o => some o | none => if b = g then w.heap[b]? else none
theorem Sat.addF {w : World} {F : Fz} (h : Sat w F) (g : Nat) : Sat w (addF F w g) := fun b o hb => by
  unfold Proofs.YtilgpdpooildcaaGreatDoor.addF at hb
  split at hb
  · rename_i x hx; cases hb; exact h b _ hx
  · split at hb
    · exact hb
    · cases hb
theorem rI (F : Fz) (w : World) (g b : Nat) (o : Obj) (h : F b = some o) : addF F w g b = some o := by simp [addF, h]
theorem qG {F : Fz} {w : World} {g b : Nat} (h : b ≠ g) : addF F w g b = F b := by
 unfold addF
 cases F b <;> simp [h]

structure Gr (w : World) (F : Fz) (w' : World) (F' : Fz) : Prop where
  below : Below w.heap.size w w'
  old : ∀ b, b < w.heap.size → F' b = F b
  sat : Sat w' F'
theorem Gr.le {w w' : World} {F F' : Fz} (h : Gr w F w' F') (hs : Sat w F) : ∀ b o, F b = some o → F' b = some o := fun b o hb => by
  rw [h.old b (hs.lt hb)]; exact hb
theorem Gr.refl {w : World} {F : Fz} (hs : Sat w F) : Gr w F w F := ⟨Below.refl _ _, fun _ _ => rfl, hs⟩
theorem Gr.trans {w w1 w2 : World} {F F1 F2 : Fz} (h : Gr w F w1 F1) (k : Gr w1 F1 w2 F2) : Gr w F w2 F2 :=
  ⟨h.below.trans (k.below.mono h.below.size), fun b hb => (k.old b (Nat.lt_of_lt_of_le hb h.below.size)).trans (h.old b hb), k.sat⟩
theorem Gr.out {w w' : World} {F F' : Fz} (h : Gr w F w' F') {g : Nat} (hg : g < w.heap.size) (hn : F g = none) : F' g = none := by rw [h.old g hg]; exact hn
theorem Gr.of_below {w w' : World} {F : Fz} (hs : Sat w F) (h : Below w.heap.size w w') : Gr w F w' F := ⟨h, fun _ _ => rfl, hs.below h⟩
theorem Gr.add {w w' : World} {F F' : Fz} (h : Gr w F w' F') {g : Nat} (hg : w.heap.size ≤ g) : Gr w F w' (addF F' w' g) :=
  ⟨h.below, fun b hb => (qG (by omega)).trans (h.old b hb), h.sat.addF g⟩
theorem Gr.set {w w1 : World} {F F1 : Fz} (h : Gr w F w1 F1) {a : Addr} (ha : w.heap.size ≤ a.block) (hn : F1 a.block = none) (u : Value) : Gr w F (w1.setCell a u) F1 :=
  ⟨h.below.setCell ha u, h.old, h.sat.setCell hn u⟩
theorem Gr.new {w w1 : World} {F F1 : Fz} (h : Gr w F w1 F1) (o : Obj) : Gr w F (w1.alloc o) F1 :=
  ⟨h.below.alloc h.below.size o, h.old, h.sat.alloc o⟩
theorem Gr.drew {w w1 : World} {F F1 : Fz} (h : Gr w F w1 F1) : Gr w F w1.drew F1 := ⟨h.below.drew, h.old, h.sat⟩
theorem MZ (X : World) (o : Obj) {n : Nat} (h : n = X.heap.size) : (X.alloc o).heap[n]? = some o := by subst h; exact heap_alloc_new X o
theorem NB {w : World} {n : Nat} {c : Array Value} {T : TypeId} {fr : Nat × Nat} (h : w.heap[n]? = some (.cells c T fr)) (j : Nat) (u : Value) : (w.setCell ⟨n, j, none⟩ u).heap[n]? = some (.cells (c.setIfInBounds j u) T fr) := by
 simp [World.setCell, Array.getElem?_modify, h]
theorem GB {w : World} {n : Nat} {p : Obj} (h : w.heap[n]? = some p) {a : Addr} (ha : a.block ≠ n) (u : Value) : (w.setCell a u).heap[n]? = some p := by
 rw [Below.heap_setCell w a u n (fun e => ha e.symm)]; exact h
theorem VM {w w' : World} (hb : Below w.heap.size w w') {n : Nat} {p : Obj} (h : w.heap[n]? = some p) : w'.heap[n]? = some p := by
 rw [hb.block n (Array.getElem?_eq_some_iff.1 h).1]; exact h
def Le (F F' : Fz) : Prop := ∀ b o, F b = some o → F' b = some o
theorem Le.refl (F : Fz) : Le F F := fun _ _ h => h
theorem Le.trans {F G H : Fz} (h : Le F G) (k : Le G H) : Le F H := fun b o hb => k b o (h b o hb)
theorem Le.cell {F F' : Fz} (h : Le F F') {b o : Nat} {v : Value} (hc : bM F b o = some v) : bM F' b o = some v := by
 unfold bM at *
 cases hb : F b with
 | none => simp [hb] at hc
 | some x => rw [h b x hb]; rw [hb] at hc; exact hc
theorem Gr.le' {w w' : World} {F F' : Fz} (h : Gr w F w' F') (hs : Sat w F) : Le F F' := h.le hs
theorem Sat.le {w : World} {F F' : Fz} (h : Sat w F') (hl : Le F F') : Sat w F := fun b o hb => h b o (hl b o hb)

def Rw (F : Fz) (v : Value) (n : Nat) (cs : List Value) : Prop :=
  ∃ a c, v = .slice a n c ∧ n ≤ c ∧ c ≤ maxLen ∧ (a = none → n = 0 ∧ c = 0) ∧
    (cs = [] ∨ ∃ b o, a = some ⟨b, o, none⟩ ∧ ∀ j u, cs[j]? = some u → bM F b (o + j) = some u)
theorem Rw.mono {F F' : Fz} {v : Value} {n : Nat} {cs : List Value} (h : Rw F v n cs) (hl : Le F F') : Rw F' v n cs := by
 obtain ⟨a, c, h1, h2, h3, h4, h5⟩ := h
 refine ⟨a, c, h1, h2, h3, h4, h5.imp id fun ⟨b, o, h6, h7⟩ => ⟨b, o, h6, fun j u hu => hl.cell (h7 j u hu)⟩⟩
theorem Rw.nil (F : Fz) : Rw F (.slice none 0 0) 0 [] := ⟨none, 0, rfl, Nat.le_refl _, Nat.zero_le _, fun _ => ⟨rfl, rfl⟩, .inl rfl⟩
theorem Rw.empty (F : Fz) (a : Addr) (c : Nat) (hc : c ≤ maxLen) : Rw F (.slice (some a) 0 c) 0 [] := ⟨some a, c, rfl, Nat.zero_le _, hc, (fun h => nomatch h), .inl rfl⟩
theorem Rw.shape {F : Fz} {v : Value} {n : Nat} {cs : List Value} (h : Rw F v n cs) : ∃ a c, v = .slice a n c ∧ n ≤ c ∧ c ≤ maxLen := by
 obtain ⟨a, c, h1, h2, h3, _⟩ := h
 exact ⟨a, c, h1, h2, h3⟩
theorem Rw.addr {F : Fz} {a : Option Addr} {m n c : Nat} {cs : List Value} (h : Rw F (.slice a m c) n cs) (hn : cs ≠ []) :
    ∃ b o, a = some ⟨b, o, none⟩ ∧ ∀ j u, cs[j]? = some u → bM F b (o + j) = some u := by
 obtain ⟨a', c', h1, _, _, _, h5⟩ := h
 cases h1
 exact h5.resolve_left hn
theorem Rw.of_cells {F : Fz} {b o n c : Nat} {cs : List Value} (h1 : n ≤ c) (h2 : c ≤ maxLen) (h : ∀ j u, cs[j]? = some u → bM F b (o + j) = some u) : Rw F (.slice (some ⟨b, o, none⟩) n c) n cs :=
  ⟨_, c, rfl, h1, h2, (fun h => nomatch h), .inr ⟨b, o, rfl, h⟩⟩
theorem Rw.of_owns {w : World} {F : Fz} {base e size : Nat} {v : Value} {n : Nat} {xs : List Value} (h : w.ownsRow base e size v n xs) (hs : Sat w F) :
    ∃ g, Rw (addF F w g) v n xs ∧ (v = .slice none 0 0 ∨ base ≤ g) := by
 rcases h with ⟨hl, ⟨rfl, rfl⟩ | ⟨g, cap, cur, rfl, hb, hg, h1, h2, h3, h4⟩⟩
 ·have : xs = [] := List.eq_nil_of_length_eq_zero (by simpa using hl)
  subst this
  exact ⟨w.heap.size, Rw.nil _, .inl rfl⟩
 ·refine ⟨g, Rw.of_cells h1 h2 fun j u hu => ?_, .inr hb⟩
  have hb' : addF F w g g = some (.cells cur e (0, 0)) := by
   unfold addF
   cases hf : F g with
   | none => simp [hg]
   | some o => have := hs g o hf; rw [hg] at this; simp at this; simp [← this]
  rw [← h4, List.getElem?_take] at hu
  split at hu
  ·unfold bM; rw [hb', Nat.zero_add]; simpa using hu
  ·cases hu
theorem Rw.takeN {F : Fz} {a : Option Addr} {n c k : Nat} {cs : List Value} (h : Rw F (.slice a n c) n cs) (hk : k ≤ n) (size : Nat) : Rw F (.slice a k c) k (cs.take (k * size)) := by
 obtain ⟨a', c', h1, h2, h3, h4, h5⟩ := h
 cases h1
 refine ⟨a, c, rfl, by omega, h3, fun h => ⟨by have := h4 h; omega, (h4 h).2⟩, ?_⟩
 rcases h5 with rfl | ⟨b, o, h6, h7⟩
 ·exact .inl (by simp)
 ·refine .inr ⟨b, o, h6, fun j u hu => h7 j u ?_⟩
  rw [List.getElem?_take] at hu
  split at hu
  ·exact hu
  ·cases hu
def bv (b : UInt8) : Value := .int .u8 (b.toNat : Int)
def Bs (F : Fz) (v : Value) (l : List UInt8) : Prop := Rw F v l.length (l.map bv)
theorem Bs.mono {F F' : Fz} {v : Value} {l : List UInt8} (h : Bs F v l) (hl : Le F F') : Bs F' v l := Rw.mono h hl
theorem Bs.nil (F : Fz) : Bs F (.slice none 0 0) [] := Rw.nil F
theorem Bs.shape {F : Fz} {v : Value} {l : List UInt8} (h : Bs F v l) : ∃ a c, v = .slice a l.length c ∧ l.length ≤ c ∧ c ≤ maxLen := Rw.shape h
theorem Bs.addr {F : Fz} {a : Option Addr} {m c : Nat} {l : List UInt8} (h : Bs F (.slice a m c) l) (hn : 0 < m) :
    ∃ b o, a = some ⟨b, o, none⟩ ∧ ∀ j (hj : j < l.length), bM F b (o + j) = some (.int .u8 (l[j].toNat : Int)) := by
 have hm : m = l.length := by obtain ⟨a', c', h1, _⟩ := h; cases h1; rfl
 obtain ⟨b, o, h1, h2⟩ := Rw.addr h (by intro e; have := congrArg List.length e; simp at this; rw [hm, this] at hn; simp at hn)
 exact ⟨b, o, h1, fun j hj => h2 j _ (by simp [bv, hj])⟩
theorem Bs.len {F : Fz} {a : Option Addr} {m c : Nat} {l : List UInt8} (h : Bs F (.slice a m c) l) : m = l.length := by
 obtain ⟨a', c', h1, _⟩ := h.shape
 cases h1; rfl
theorem Bs.takeN {F : Fz} {a : Option Addr} {n c k : Nat} {l : List UInt8} (h : Bs F (.slice a n c) l) (hk : k ≤ l.length) : Rw F (.slice a k c) k ((l.take k).map bv) := by
 obtain rfl := h.len
 have := Rw.takeN h hk 1
 rw [Nat.mul_one, ← List.map_take] at this
 exact this
def dB (w : World) (F : Fz) (R : Fz → Value → Prop) (e : Ending) (w' : World) : Prop := ∃ v F', e = .returned v ∧ Gr w F w' F' ∧ R F' v
def cU (w : World) (v : Value) (e : Ending) (w' : World) : Prop := e = .returned v ∧ Below w.heap.size w w'

theorem Gr.row {w w' : World} {F : Fz} {e size : Nat} {v : Value} {n : Nat} {xs : List Value} (hs : Sat w F) (hb : Below w.heap.size w w') (h : w'.ownsRow w.heap.size e size v n xs) :
    ∃ F', Gr w F w' F' ∧ Rw F' v n xs := by
 obtain ⟨g, h1, h2⟩ := Rw.of_owns h (hs.below hb)
 rcases h2 with rfl | h2
 ·obtain ⟨a', c', e1, e2, e3, e4, e5⟩ := h1
  cases e1
  rcases e5 with rfl | ⟨_, _, e6, _⟩
  ·exact ⟨F, Gr.of_below hs hb, Rw.nil F⟩
  ·cases e6
 ·exact ⟨_, (Gr.of_below hs hb).add h2, h1⟩
section
variable {P : Program} {w : World} {F : Fz}
theorem BU (base : Nat) (t ty e : TypeId) (i : TypeInfo) (z : Value) (size bytes : Nat) (ht : P.underlying t = some (.slice e)) (hi : P.info? e = some i) (hz : i.zero = some z)
    (hsize : i.size = size) (hby : i.bytes = bytes) (hzs : z.cells.size = size) (hsz : 0 < size)
    {v : Value} {n : Nat} {xs : List Value} (hown : w.ownsRow base e size v n xs) {u : Value} {m : Nat} {news : List Value} (hs : Sat w F) (hr : Rw F u m news)
    (hl : news.length = m * size) (h1 : ∀ u ∈ news, u.oneCell' = true)
    (a0 : n + m ≤ maxLen) (hbytes : (n + m) * bytes ≤ 140737488355328) (hbase : base ≤ w.heap.size) :
    ∃ v' w', (Builtin.append_ #[t, t] ty #[v, u]).run P w = .ok v' w' ∧ w'.ownsRow base e size v' (n + m) (xs ++ news) ∧ w.grownBy w' v.ownBlock ∧
      (v' = .slice none 0 0 ↔ v = .slice none 0 0 ∧ m = 0) := by
 obtain ⟨a, c, rfl, h2, h3, h4, h5⟩ := hr
 cases a with
 | none =>
  obtain ⟨rfl, rfl⟩ := h4 rfl
  obtain rfl : news = [] := h5.resolve_right (by rintro ⟨_, _, e, _⟩; cases e)
  have hrun := run_append_owned_none (P := P) w base t ty e i size ht hi v n xs hown
  exact ⟨v, w, by simpa using hrun, by simpa using hown, World.grownBy.refl _ _, by simp⟩
 | some a =>
  refine run_append_own (P := P) w base t ty e i z size bytes ht hi hz hsize hby hzs hsz v n xs hown a m c news hl (fun j u hu => ?_) h1 a0 hbytes hbase
  rcases h5 with rfl | ⟨b, o, h6, h7⟩
  ·simp at hu
  ·cases h6
   have : (⟨b, o, none⟩ : Addr).add j = ⟨b, o + j, none⟩ := by unfold Addr.add; split <;> simp_all
   rw [this]; exact hs.cell (h7 j u hu)
theorem pF {ops : Array Oper} {rest : List Oper} {o : Oper} {a : Act} {Q : Exit → Act → World → Prop} (hgd : o.guard = none) (s x : Operand) (t : TypeId)
    (ho : o.op = .call { callee := .builtin .append, args := #[s, x], argTypes := #[t, t] })
    (base : Nat) (e : TypeId) (i : TypeInfo) (z : Value) (size bytes : Nat) (ht : P.underlying t = some (.slice e)) (hi : P.info? e = some i) (hz : i.zero = some z)
    (hsize : i.size = size) (hby : i.bytes = bytes) (hzs : z.cells.size = size) (hsz : 0 < size)
    {v : Value} {n : Nat} {xs : List Value} (hv : a.eval s = v) (hown : w.ownsRow base e size v n xs) {u : Value} {m : Nat} {news : List Value} (hu : a.eval x = u) (hs : Sat w F) (hr : Rw F u m news)
    (hl : news.length = m * size) (h1 : ∀ u ∈ news, u.oneCell' = true)
    (a0 : n + m ≤ maxLen) (hbytes : (n + m) * bytes ≤ 140737488355328) (hbase : base ≤ w.heap.size)
    (h : ∀ v' w', w'.ownsRow base e size v' (n + m) (xs ++ news) → w.grownBy w' v.ownBlock → (v' = .slice none 0 0 ↔ v = .slice none 0 0 ∧ m = 0) → wpList P ops Q rest (a.put o.dst v') w') :
    wpList P ops Q (o :: rest) a w := by
 refine wpList_plain hgd fun K hK => ?_
 obtain ⟨v', w', hrun, h2, h3, h4⟩ := BU (P := P) base t o.type e i z size bytes ht hi hz hsize hby hzs hsz hown hs hr hl h1 a0 hbytes hbase
 unfold Oper.wp execOp
 simp only [ho, resolve, invoke, builtin, Sem.run_bind, Sem.run_pure, Result.andThen_ok, List.map_toArray, List.map_cons, List.map_nil, hv, hu, hrun]
 exact hK _ _ (h v' w' h2 h3 h4)
theorem BV (l : List UInt8) : ∀ u ∈ l.map bv, u.oneCell' = true := by
 intro u hu
 obtain ⟨_, _, rfl⟩ := List.mem_map.1 hu
 rfl
theorem rJ {src e dst : TypeId} (hsrc : P.underlying src = some (.slice e)) (he : P.underlying e = some (.int .u8)) (hd : P.underlying dst = some .string)
    {v : Value} {l : List UInt8} (hs : Sat w F) (h : Bs F v l) : (convert src dst v).run P w = .ok (.string ⟨l.toArray⟩) w := by
 obtain ⟨a, c, rfl, h2, h3, h4', h5⟩ := h
 by_cases hl : l = []
 ·subst hl
  cases a with
  | none => exact run_convert_bytes_nil w src e hsrc he _ _ dst hd
  | some a =>
   show (convert src dst (.slice (some a) 0 c)).run P w = _
   rw [run_convert_bytes_string w src dst e _ 0 c hsrc he hd, run_bytesToString w a 0 c [] (run_loadCells_list (P := P) w a [] (by simp))]
   rfl
 ·obtain ⟨b, o, rfl, h4⟩ := h5.resolve_left (by simpa using hl)
  have hh := run_convert_bytes_arg (P := P) w src e hsrc he b o l.length c (l.map fun x => (x.toNat : Int)) (by simp) (fun i hi => by
   rw [hs.cell (h4 i (.int .u8 (l[i].toNat : Int)) (by simp [bv, hi]))]
   simp [List.getD, hi]) dst hd
  rw [hh]
  congr 2
  unfold strOfNums
  simp only [List.map_map]
  have e : ((fun n : Int => UInt8.ofNat n.toNat) ∘ fun x : UInt8 => (x.toNat : Int)) = id := by funext x; simp
  rw [e, List.map_id]
end
set_option maxRecDepth 100000

theorem rK : (Tryz.prog.info? 5).map (fun i => (i.zero, i.size, i.bytes)) = some (some (.int .u8 0), 1, 1) := by kernel_rfl

def cJ (n : Nat) : Int := if 1 ≤ n ∧ n ≤ 16 then 0 else 1
theorem gU {n : Nat} (h1 : 1 ≤ n) (h2 : n ≤ 16) : cJ n = 0 := by unfold cJ; rw [if_pos ⟨h1, h2⟩]
theorem oC {n : Nat} (h : ¬ (1 ≤ n ∧ n ≤ 16)) : cJ n = 1 := by unfold cJ; rw [if_neg h]
theorem jK (w : World) (a : Option Addr) (n c : Nat) (_hlc : n ≤ c) (_hcm : c ≤ maxLen) :
    Calls Tryz.prog 55 #[.slice a n c] w fun e w' => e = .returned (.int .i64 (cJ n)) ∧ w' = w := by
 by_cases h : 1 ≤ n ∧ n ≤ 16
 ·rw [gU h.1 h.2]
  obtain ⟨h1, h2⟩ := h
  go_enter Tryz.func55, Tryz.ntmps55
  go_wp2
  go_ret
  exact ⟨rfl, rfl⟩
 ·rw [oC h]
  by_cases h1 : n < 1
  ·clear h
   go_enter Tryz.func55, Tryz.ntmps55
   go_wp2
   go_ret
   exact ⟨rfl, rfl⟩
  ·have h2 : 16 < n := by omega
   clear h
   go_enter Tryz.func55, Tryz.ntmps55
   go_wp2
   go_ret
   exact ⟨rfl, rfl⟩
theorem iA (F : Fz) (w : World) (v : Value) (l : List UInt8) (hv : Bs F v l) :
    Calls Tryz.prog 55 #[v] w fun e w' => e = .returned (.int .i64 (cJ l.length)) ∧ w' = w := by
 obtain ⟨a, c, rfl, hlc, hcm⟩ := hv.shape
 exact jK w a _ c hlc hcm
theorem AK (x k : Nat) (hx : x < 256) : (bits .and .u8 ((x : Int) / 2 ^ k) 1 == 1) = x.testBit k := by
 have e : ((x : Int) / 2 ^ k) = ((x / 2 ^ k : Nat) : Int) := by simp
 have h := u8_and_nat (x / 2 ^ k) 1 (Nat.lt_of_le_of_lt (Nat.div_le_self _ _) hx) (by omega)
 rw [e]
 rw [show ((1 : Nat) : Int) = 1 from rfl] at h
 rw [h, Nat.and_one_is_mod, Nat.testBit_eq_decide_div_mod_eq]
 rw [Bool.eq_iff_iff]
 simp
 omega
def cY (l : List UInt8) (i : Nat) : Bool :=
  if i / 9 < l.length then (if i % 9 = 0 then true else (l.getD (i / 9) 0).toNat.testBit (8 - i % 9)) else false
theorem tA (F : Fz) (w : World) (v : Value) (l : List UInt8) (ii : Int) (hs : Sat w F) (hv : Bs F v l) (h0 : 0 ≤ ii) (hm : ii ≤ 100000) :
    Calls Tryz.prog 145 #[v, .int .i64 ii] w fun e w' => e = .returned (.bool (cY l ii.toNat)) ∧ w' = w := by
 obtain ⟨i, rfl⟩ := Int.eq_ofNat_of_zero_le h0
 rw [Int.toNat_natCast]
 obtain ⟨a, c, rfl, hlc, hcm⟩ := hv.shape
 unfold maxLen at hcm
 by_cases h1 : i / 9 < l.length
 ·obtain ⟨b, o, rfl, hc⟩ := hv.addr (by omega)
  have hcell := hs.cell (hc (i / 9) h1)
  clear hc
  by_cases h2 : i % 9 = 0
  ·have hp : (((i : Int) % 9) == 0) = true := by rw [beq_iff_eq]; omega
   have hv : Hid (cY l i = true) := by unfold Hid cY; rw [if_pos h1, if_pos h2]
   clear h2
   go_enter Tryz.func145, Tryz.ntmps145
   go_wp2
   go_ret
   exact ⟨by rw [hv.out]; rfl, rfl⟩
  ·have hp : (((i : Int) % 9) == 0) = false := by rw [beq_eq_false_iff_ne]; omega
   go_enter Tryz.func145, Tryz.ntmps145
   go_wp2
   go_ret
   refine ⟨?_, rfl⟩
   show Ending.returned (.bool _) = _
   rw [AK _ _ (UInt8.toNat_lt _)]
   unfold cY
   rw [if_pos h1, if_neg h2]
   simp [List.getD, h1]
 ·have hv : Hid (cY l i = false) := by unfold Hid cY; rw [if_neg h1]
  go_enter Tryz.func145, Tryz.ntmps145
  go_wp2
  go_ret
  exact ⟨by rw [hv.out]; rfl, rfl⟩

def fX (a b : List UInt8) : Nat → Nat → Int
  | 0, _ => -1
  | n + 1, i => if cY a i = cY b i then fX a b n (i + 1) else i
def pG (a b : List UInt8) : Int := fX a b 145 0
theorem yK (F : Fz) (w : World) (v : Value) (l : List UInt8) (ii : Int) (hs : Sat w F) (hv : Bs F v l) (hl : 1 ≤ l.length) (hl2 : l.length ≤ 16) (h0 : 0 ≤ ii) (hm : ii < 145) :
    Calls Tryz.prog 124 #[v, .int .i64 ii] w fun e w' => e = .returned (.tuple #[.bool (cY l ii.toNat), .int .i64 0]) ∧ w' = w := by
 have hc := iA F w v l hv
 rw [gU hl hl2] at hc
 have HC := hid hc
 clear hc
 go_enter Tryz.func124, Tryz.ntmps124
 go_wp2_with (first | (go_at_call 55; refine HC.out.mono ?_; rintro e w' ⟨rfl, rfl⟩) | (go_at_call 145; refine (tA F _ _ l _ hs hv (by omega) (by omega)).mono ?_; rintro e w' ⟨rfl, rfl⟩))
 go_ret2
 exact ⟨rfl, rfl⟩
theorem GC {a b : List UInt8} {n i : Nat} (h : cY a i = cY b i) : fX a b (n + 1) i = fX a b n (i + 1) := by
 rw [fX, if_pos h]

theorem VN (F : Fz) (w : World) (v u : Value) (a b : List UInt8) (hs : Sat w F) (hv : Bs F v a) (hu : Bs F u b) (ha : 1 ≤ a.length) (ha2 : a.length ≤ 16) (hb : 1 ≤ b.length) (hb2 : b.length ≤ 16) :
    Calls Tryz.prog 142 #[v, u] w fun e w' => e = .returned (.tuple #[.int .i64 (pG a b), .int .i64 0]) ∧ w' = w := by
 have hc := iA F w v a hv
 rw [gU ha ha2] at hc
 have hd := iA F w u b hu
 rw [gU hb hb2] at hd
 have HC := hid hc
 have HD := hid hd
 clear hc hd
 go_enter Tryz.func142, Tryz.ntmps142
 go_wp2_with fail
 refine HC.out.mono ?_; rintro e w' ⟨rfl, rfl⟩
 go_wp2_with fail
 refine HD.out.mono ?_; rintro e w' ⟨rfl, rfl⟩
 go_wp2_with fail
 go_loop [19] (fun t => ∃ k : Nat, k ≤ 145 ∧ t = .int .i64 k ∧ pG a b = fX a b (145 - k) k) (fun t => 145 - (intOf t).toNat)
 case atStart => exact ⟨0, by omega, rfl, rfl⟩
 case round =>
  obtain ⟨k, hk, rfl, hp⟩ := hrel
  have HP := hid hp
  clear hp
  by_cases hlt : k < 145
  ·by_cases he : cY a k = cY b k
   ·have hq : ((cY a k) == (cY b k)) = true := by simp [he]
    have HE := hid he
    clear he
    go_wp2_with fail
    refine (tA F _ _ a _ hs hv (by omega) (by omega)).mono ?_; rintro e w' ⟨rfl, rfl⟩
    go_wp2_with fail
    refine (tA F _ _ b _ hs hu (by omega) (by omega)).mono ?_; rintro e w' ⟨rfl, rfl⟩
    go_wp2_with fail
    refine ⟨⟨k + 1, by omega, by go_num, ?_⟩, by simp [intOf]; omega⟩
    have h1 := HP.out
    rw [show 145 - k = (145 - (k + 1)) + 1 from by omega, GC HE.out] at h1
    exact h1
   ·have hq : ((cY a k) == (cY b k)) = false := by simp [he]
    have HE := hid he
    clear he
    go_wp2_with fail
    refine (tA F _ _ a _ hs hv (by omega) (by omega)).mono ?_; rintro e w' ⟨rfl, rfl⟩
    go_wp2_with fail
    refine (tA F _ _ b _ hs hu (by omega) (by omega)).mono ?_; rintro e w' ⟨rfl, rfl⟩
    go_wp2_with fail
    go_ret2
    have h1 := HP.out
    rw [show 145 - k = (145 - (k + 1)) + 1 from by omega, fX, if_neg HE.out] at h1
    exact ⟨by rw [h1]; rfl, rfl⟩
  ·go_wp2_with fail
   go_ret2
   have h1 := HP.out
   rw [show 145 - k = 0 from by omega, fX] at h1
   exact ⟨by rw [h1]; rfl, rfl⟩

def pick (n m : Int) : Int := (if n < 0 then -(n + 1) else n) % m
theorem TG (n m : Int) (h : 1 ≤ m) : 0 ≤ pick n m ∧ pick n m < m := by
 unfold pick
 exact ⟨Int.emod_nonneg _ (by omega), Int.emod_lt_of_pos _ (by omega)⟩
theorem NC (n m : Int) (w : World) (h1 : -9223372036854775808 ≤ n) (h2 : n ≤ 9223372036854775807) (hm : 1 ≤ m) (hm2 : m ≤ 10000000) :
    Calls Tryz.prog 30 #[.int .i64 n, .int .i64 m] w fun e w' => e = .returned (.int .i64 (pick n m)) ∧ w' = w := by
 by_cases h : n < 0
 ·have hp : Hid (pick n m = -((n + 1).tmod m)) := by unfold Hid pick; rw [if_pos h, ← Int.neg_tmod, Int.tmod_eq_emod_of_nonneg (by omega)]
  go_enter Tryz.func30, Tryz.ntmps30
  go_wp2
  go_ret
  refine ⟨?_, rfl⟩
  rw [hp.out]
  rfl
 ·have hp : Hid (pick n m = n % m) := by unfold Hid pick; rw [if_neg h]
  go_enter Tryz.func30, Tryz.ntmps30
  go_wp2
  go_ret
  exact ⟨by rw [hp.out]; rfl, rfl⟩

theorem BW (i : Nat) : cY [] i = false := by simp [cY]
theorem yL (x : UInt8) (a : List UInt8) : cY (x :: a) 0 = true := by simp [cY]
theorem mL (x : UInt8) (a : List UInt8) (i : Nat) (h1 : 1 ≤ i) (h2 : i < 9) : cY (x :: a) i = x.toNat.testBit (8 - i) := by
 unfold cY
 have e : i / 9 = 0 := by omega
 have e2 : i % 9 = i := by omega
 rw [e, e2, if_pos (by simp), if_neg (by omega)]
 rfl
theorem qH (x : UInt8) (a : List UInt8) (i : Nat) : cY (x :: a) (i + 9) = cY a i := by
 unfold cY
 have e : (i + 9) / 9 = i / 9 + 1 := by omega
 have e2 : (i + 9) % 9 = i % 9 := by omega
 rw [e, e2]
 simp only [List.length_cons, Nat.add_lt_add_iff_right, List.getD_cons_succ]
theorem ND (x y : UInt8) (h : ∀ i, 1 ≤ i → i < 9 → x.toNat.testBit (8 - i) = y.toNat.testBit (8 - i)) : x = y := by
 apply UInt8.toNat_inj.1
 apply Nat.eq_of_testBit_eq
 intro j
 by_cases hj : j < 8
 ·have := h (8 - j) (by omega) (by omega)
  rwa [show 8 - (8 - j) = j from by omega] at this
 ·have p : 256 ≤ 2 ^ j := (show (256 : Nat) = 2 ^ 8 from rfl) ▸ Nat.pow_le_pow_right (by omega) (by omega)
  rw [Nat.testBit_lt_two_pow (Nat.lt_of_lt_of_le (UInt8.toNat_lt x) p), Nat.testBit_lt_two_pow (Nat.lt_of_lt_of_le (UInt8.toNat_lt y) p)]
theorem Dm (x y : UInt8) (n : Nat) (h1 : 1 ≤ n) (h2 : n < 9) (h : ∀ i, 1 ≤ i → i < n → x.toNat.testBit (8 - i) = y.toNat.testBit (8 - i))
    (hx : x.toNat.testBit (8 - n) = false) (hy : y.toNat.testBit (8 - n) = true) : x.toNat < y.toNat := by
 have hq : x.toNat / 2 ^ (8 - n + 1) = y.toNat / 2 ^ (8 - n + 1) := by
  apply Nat.eq_of_testBit_eq
  intro j
  rw [Nat.testBit_div_two_pow, Nat.testBit_div_two_pow]
  by_cases h8 : j + (8 - n + 1) < 8
  ·have := h (8 - (j + (8 - n + 1))) (by omega) (by omega)
   rwa [show 8 - (8 - (j + (8 - n + 1))) = j + (8 - n + 1) from by omega] at this
  ·have p : 256 ≤ 2 ^ (j + (8 - n + 1)) := (show (256 : Nat) = 2 ^ 8 from rfl) ▸ Nat.pow_le_pow_right (by omega) (by omega)
   rw [Nat.testBit_lt_two_pow (Nat.lt_of_lt_of_le (UInt8.toNat_lt x) p), Nat.testBit_lt_two_pow (Nat.lt_of_lt_of_le (UInt8.toNat_lt y) p)]
 rw [Nat.pow_succ, ← Nat.div_div_eq_div_mul, ← Nat.div_div_eq_div_mul] at hq
 rw [Nat.testBit_eq_decide_div_mod_eq] at hx hy
 simp only [decide_eq_false_iff_not, decide_eq_true_eq] at hx hy
 exact Nat.lt_of_div_lt_div (c := 2 ^ (8 - n)) (by omega)
theorem TH : ∀ (m : Nat) (a b : List UInt8), a.length ≤ m → b.length ≤ m → (∀ i, i < 9 * m + 1 → cY a i = cY b i) → a = b
  | _, [], [], _, _, _ => rfl
  | m, [], y :: b, _, hb, h => by have := h 0 (by omega); rw [BW, yL] at this; cases this
  | m, x :: a, [], ha, _, h => by have := h 0 (by omega); rw [BW, yL] at this; cases this
  | 0, x :: a, y :: b, ha, _, _ => by simp at ha
  | m + 1, x :: a, y :: b, ha, hb, h => by
    have e : x = y := ND x y fun i h1 h2 => by
      have := h i (by omega)
      rwa [mL x a i h1 h2, mL y b i h1 h2] at this
    have ih := TH m a b (by simpa using ha) (by simpa using hb) fun i hi => by
      have := h (i + 9) (by omega)
      rwa [qH, qH] at this
    rw [e, ih]
theorem BX : ∀ (a b : List UInt8) (n : Nat), (∀ i, i < n → cY a i = cY b i) → cY a n = false → cY b n = true → Op.bytesLess a b = true
  | _, [], n, _, _, hb => by rw [BW] at hb; cases hb
  | [], _ :: _, _, _, _, _ => by simp [Op.bytesLess]
  | x :: a, y :: b, n, h, ha, hb => by
    by_cases h0 : n = 0
    · subst h0; rw [yL] at ha; cases ha
    · by_cases h9 : n < 9
      · rw [mL x a n (by omega) h9] at ha
        rw [mL y b n (by omega) h9] at hb
        have hlt : x.toNat < y.toNat := Dm x y n (by omega) h9 (fun i h1 h2 => by
          have := h i h2
          rwa [mL x a i h1 (by omega), mL y b i h1 (by omega)] at this) ha hb
        simp only [Op.bytesLess, Bool.or_eq_true, decide_eq_true_eq]
        exact .inl hlt
      · obtain ⟨k, rfl⟩ : ∃ k, n = k + 9 := ⟨n - 9, by omega⟩
        have e : x = y := ND x y fun i h1 h2 => by
          have := h i (by omega)
          rwa [mL x a i h1 h2, mL y b i h1 h2] at this
        subst e
        rw [qH] at ha hb
        have ih := BX a b k (fun i hi => by have := h (i + 9) (by omega); rwa [qH, qH] at this) ha hb
        simp only [Op.bytesLess, ih]
        simp
theorem gW : ∀ a : List UInt8, Op.bytesLess a a = false
  | [] => rfl
  | x :: a => by simp [Op.bytesLess, gW a]
theorem kN : ∀ a b : List UInt8, Op.bytesLess a b = true → Op.bytesLess b a = false
  | _, [], h => by cases ‹List UInt8› <;> cases h
  | [], _ :: _, _ => rfl
  | x :: a, y :: b, h => by
    simp only [Op.bytesLess, Bool.or_eq_true, decide_eq_true_eq, Bool.and_eq_true, beq_iff_eq] at h
    simp only [Op.bytesLess, Bool.or_eq_false_iff, decide_eq_false_iff_not, Bool.and_eq_false_iff]
    rcases h with h | ⟨rfl, h⟩
    · refine ⟨fun k => ?_, .inl ?_⟩
      · have h1 := UInt8.lt_iff_toNat_lt.1 h; have h2 := UInt8.lt_iff_toNat_lt.1 k; omega
      · rw [beq_eq_false_iff_ne]
        rintro rfl
        have h1 := UInt8.lt_iff_toNat_lt.1 h; omega
    · exact ⟨fun k => by have h2 := UInt8.lt_iff_toNat_lt.1 k; omega, .inr (kN a b h)⟩
theorem wJ : ∀ (a b : List UInt8) (n i : Nat), fX a b n i = -1 → ∀ j, i ≤ j → j < i + n → cY a j = cY b j
  | _, _, 0, i, _, j, h1, h2 => by omega
  | a, b, n + 1, i, h, j, h1, h2 => by
    rw [fX] at h
    split at h
    · rename_i he
      by_cases hj : j = i
      · rw [hj]; exact he
      · exact wJ a b n (i + 1) h j (by omega) (by omega)
    · omega
theorem wK : ∀ (a b : List UInt8) (n i : Nat) (m : Int), fX a b n i = m → 0 ≤ m → (i : Int) ≤ m ∧ m < i + n ∧ cY a m.toNat ≠ cY b m.toNat ∧ ∀ j, i ≤ j → j < m.toNat → cY a j = cY b j
  | _, _, 0, i, m, h, h0 => by rw [fX] at h; omega
  | a, b, n + 1, i, m, h, h0 => by
    rw [fX] at h
    split at h
    · rename_i he
      obtain ⟨h1, h2, h3, h4⟩ := wK a b n (i + 1) m h h0
      refine ⟨by omega, by omega, h3, fun j j1 j2 => ?_⟩
      by_cases hj : j = i
      · rw [hj]; exact he
      · exact h4 j (by omega) j2
    · rename_i he
      subst h
      exact ⟨by omega, by omega, by simpa using he, fun j j1 j2 => by simp at j2; omega⟩
theorem zR : ∀ (a b : List UInt8) (n i : Nat), -1 ≤ fX a b n i
  | _, _, 0, _ => by rw [fX]; omega
  | a, b, n + 1, i => by
    rw [fX]
    split
    · exact zR a b n (i + 1)
    · omega
theorem YN (a b : List UInt8) : -1 ≤ pG a b := zR a b 145 0
theorem vS (a b : List UInt8) : (pG a b = -1 ∧ ∀ j, j < 145 → cY a j = cY b j) ∨
    ∃ n : Nat, n < 145 ∧ pG a b = n ∧ cY a n ≠ cY b n ∧ ∀ j, j < n → cY a j = cY b j := by
 by_cases h : pG a b = -1
 ·exact .inl ⟨h, fun j hj => wJ a b 145 0 h j (by omega) (by omega)⟩
 ·have hg := YN a b
  obtain ⟨h1, h2, h3, h4⟩ := wK a b 145 0 (pG a b) rfl (by omega)
  refine .inr ⟨(pG a b).toNat, by omega, by omega, h3, fun j hj => h4 j (by omega) hj⟩
theorem YO {a b : List UInt8} (ha : a.length ≤ 16) (hb : b.length ≤ 16) (h : pG a b = -1) : a = b := by
 rcases vS a b with ⟨_, h2⟩ | ⟨m, m1, m2, _, _⟩
 ·exact TH 16 a b ha hb fun i hi => h2 i (by omega)
 ·omega
theorem QX {a b : List UInt8} {n : Nat} (h : pG a b = n) : cY b n = Op.bytesLess a b := by
 rcases vS a b with ⟨h1, _⟩ | ⟨m, m1, m2, m3, m4⟩
 ·omega
 ·have : m = n := by omega
  subst this
  cases hb : cY b m with
  | true =>
   have ha : cY a m = false := by cases ha : cY a m with | false => rfl | true => rw [ha, hb] at m3; exact absurd rfl m3
   rw [BX a b m m4 ha hb]
  | false =>
   have ha : cY a m = true := by cases ha : cY a m with | true => rfl | false => rw [ha, hb] at m3; exact absurd rfl m3
   rw [kN b a (BX b a m (fun i hi => (m4 i hi).symm) hb ha)]
open Go.RowKit Go.ChangeShapes Go.WideShapes Go.ChangeAt

def AllR {α : Type} (R : List Value → α → Prop) : List (List Value) → List α → Prop
  | [], [] => True
  | x :: xs, p :: ps => R x p ∧ AllR R xs ps
  | _, _ => False
theorem AllR.len {α : Type} {R : List Value → α → Prop} : ∀ {xs : List (List Value)} {ps : List α}, AllR R xs ps → xs.length = ps.length
  | [], [], _ => rfl
  | _ :: xs, _ :: ps, h => by simp [AllR.len (xs := xs) (ps := ps) h.2]
  | [], _ :: _, h => h.elim
  | _ :: _, [], h => h.elim
theorem AllR.imp {α : Type} {R S : List Value → α → Prop} (hi : ∀ x p, R x p → S x p) : ∀ {xs : List (List Value)} {ps : List α}, AllR R xs ps → AllR S xs ps
  | [], [], _ => trivial
  | _ :: xs, _ :: ps, h => ⟨hi _ _ h.1, AllR.imp hi (xs := xs) (ps := ps) h.2⟩
  | [], _ :: _, h => h.elim
  | _ :: _, [], h => h.elim
theorem AllR.get {α : Type} {R : List Value → α → Prop} : ∀ {xs : List (List Value)} {ps : List α}, AllR R xs ps → ∀ (i : Nat) (h1 : i < xs.length) (h2 : i < ps.length), R xs[i] ps[i]
  | _ :: _, _ :: _, h, 0, _, _ => h.1
  | _ :: xs, _ :: ps, h, i + 1, h1, h2 => AllR.get (xs := xs) (ps := ps) h.2 i (by simpa using h1) (by simpa using h2)
  | [], _, _, _, h1, _ => by simp at h1
theorem AllR.of_get {α : Type} {R : List Value → α → Prop} : ∀ {xs : List (List Value)} {ps : List α}, xs.length = ps.length → (∀ (i : Nat) (h1 : i < xs.length) (h2 : i < ps.length), R xs[i] ps[i]) → AllR R xs ps
  | [], [], _, _ => trivial
  | x :: xs, p :: ps, hl, h => ⟨h 0 (by simp) (by simp), AllR.of_get (by simpa using hl) fun i h1 h2 => h (i + 1) (by simpa using h1) (by simpa using h2)⟩
  | [], _ :: _, hl, _ => by simp at hl
  | _ :: _, [], hl, _ => by simp at hl
theorem AllR.append {α : Type} {R : List Value → α → Prop} : ∀ {xs : List (List Value)} {ps : List α} {ys : List (List Value)} {qs : List α}, AllR R xs ps → AllR R ys qs → AllR R (xs ++ ys) (ps ++ qs)
  | [], [], _, _, _, k => k
  | _ :: xs, _ :: ps, _, _, h, k => ⟨h.1, AllR.append (xs := xs) (ps := ps) h.2 k⟩
  | [], _ :: _, _, _, h, _ => h.elim
  | _ :: _, [], _, _, h, _ => h.elim
theorem AllR.take {α : Type} {R : List Value → α → Prop} : ∀ {xs : List (List Value)} {ps : List α}, AllR R xs ps → ∀ k, AllR R (xs.take k) (ps.take k)
  | [], [], _, k => by simp [AllR]
  | _ :: xs, _ :: ps, h, 0 => by simp [AllR]
  | _ :: xs, _ :: ps, h, k + 1 => ⟨h.1, AllR.take (xs := xs) (ps := ps) h.2 k⟩
  | [], _ :: _, h, _ => h.elim
  | _ :: _, [], h, _ => h.elim
theorem AllR.drop {α : Type} {R : List Value → α → Prop} : ∀ {xs : List (List Value)} {ps : List α}, AllR R xs ps → ∀ k, AllR R (xs.drop k) (ps.drop k)
  | [], [], _, k => by simp [AllR]
  | _ :: xs, _ :: ps, h, 0 => h
  | _ :: xs, _ :: ps, h, k + 1 => AllR.drop (xs := xs) (ps := ps) h.2 k
  | [], _ :: _, h, _ => h.elim
  | _ :: _, [], h, _ => h.elim
theorem lU : ∀ {el : List (List Value)} {k : Nat}, (∀ x ∈ el, x.length = k) → ∀ (i : Nat) (hi : i < el.length) (j : Nat), j < k → el.flatten[i * k + j]? = el[i][j]?
  | [], _, _, _, hi, _, _ => by simp at hi
  | x :: el, k, h, 0, _, j, hj => by
    have hx : x.length = k := h x (by simp)
    simp [List.getElem?_append, hx, hj]
  | x :: el, k, h, i + 1, hi, j, hj => by
    have hx : x.length = k := h x (by simp)
    have ih := lU (el := el) (k := k) (fun y hy => h y (by simp [hy])) i (by simpa using hi) j hj
    simp only [List.flatten_cons, List.getElem_cons_succ]
    rw [List.getElem?_append_right (by rw [hx, Nat.add_mul]; omega), hx, show (i + 1) * k + j - k = i * k + j from by rw [Nat.add_mul]; omega, ih]
theorem fO : ∀ {el : List (List Value)} {k : Nat}, (∀ x ∈ el, x.length = k) → el.flatten.length = el.length * k
  | [], _, _ => by simp
  | x :: el, k, h => by
    have ih := fO (el := el) (k := k) (fun y hy => h y (by simp [hy]))
    simp only [List.flatten_cons, List.length_append, List.length_cons, ih, h x (by simp), Nat.add_mul]
    omega
def Sl {α : Type} (k : Nat) (R : Fz → List Value → α → Prop) (F : Fz) (v : Value) (l : List α) : Prop :=
  ∃ el : List (List Value), Rw F v l.length el.flatten ∧ AllR (R F) el l ∧ ∀ x ∈ el, x.length = k
theorem Sl.mono {α : Type} {k : Nat} {R : Fz → List Value → α → Prop} (hR : ∀ F F' x p, Le F F' → R F x p → R F' x p) {F F' : Fz} {v : Value} {l : List α} (h : Sl k R F v l) (hl : Le F F') : Sl k R F' v l := by
 obtain ⟨el, h1, h2, h3⟩ := h
 exact ⟨el, h1.mono hl, h2.imp fun x p => hR F F' x p hl, h3⟩
theorem Sl.nil {α : Type} (k : Nat) (R : Fz → List Value → α → Prop) (F : Fz) : Sl k R F (.slice none 0 0) [] := ⟨[], Rw.nil F, trivial, by simp⟩
theorem Sl.shape {α : Type} {k : Nat} {R : Fz → List Value → α → Prop} {F : Fz} {v : Value} {l : List α} (h : Sl k R F v l) : ∃ a c, v = .slice a l.length c ∧ l.length ≤ c ∧ c ≤ maxLen := by
 obtain ⟨el, h1, _⟩ := h
 exact h1.shape
theorem Sl.at {α : Type} {k : Nat} {R : Fz → List Value → α → Prop} {F : Fz} {a : Option Addr} {n c : Nat} {l : List α} (h : Sl k R F (.slice a n c) l) (hk : 0 < k) (hn : 0 < n) :
    ∃ b o, a = some ⟨b, o, none⟩ ∧ ∀ (i : Nat) (hi : i < l.length), ∃ x, x.length = k ∧ R F x l[i] ∧ ∀ j (hj : j < x.length), bM F b (o + (i * k + j)) = some x[j] := by
 obtain ⟨el, h1, h2, h3⟩ := h
 have hlen := h2.len
 have hm : n = l.length := by obtain ⟨a', c', e, _⟩ := h1; cases e; rfl
 have hne : el.flatten ≠ [] := by
  intro e
  have := congrArg List.length e
  rw [fO h3, hlen, ← hm] at this
  have := Nat.mul_pos hn hk
  simp at *
  omega
 obtain ⟨b, o, e, hc⟩ := Rw.addr h1 hne
 refine ⟨b, o, e, fun i hi => ⟨el[i]'(by omega), h3 _ (List.getElem_mem _), h2.get i (by omega) hi, fun j hj => ?_⟩⟩
 have hj' : j < k := by rw [h3 _ (List.getElem_mem _)] at hj; exact hj
 exact hc _ _ (by rw [lU h3 i (by omega) j hj']; simp [hj])

theorem JI (a : Addr) (i j : Nat) : (a.add i).add j = a.add (i + j) := by
 unfold Addr.add
 by_cases h1 : i = 0 <;> by_cases h2 : j = 0 <;> simp [h1, h2, Nat.add_assoc]
theorem zS {β : Type} {Q : Nat → β → Prop} : ∀ n, (∀ i, i < n → ∃ b, Q i b) → ∃ l : List β, l.length = n ∧ ∀ (i : Nat) (h : i < l.length), Q i l[i]
  | 0, _ => ⟨[], rfl, fun i h => by simp at h⟩
  | n + 1, h => by
    obtain ⟨l, h1, h2⟩ := zS n (fun i hi => h i (by omega))
    obtain ⟨b, hb⟩ := h n (by omega)
    refine ⟨l ++ [b], by simp [h1], fun i hi => ?_⟩
    by_cases hn : i < l.length
    · rw [List.getElem_append_left hn]; exact h2 i hn
    · have : i = n := by simp at hi; omega
      subst this
      simpa [h1] using hb
section
variable {H : Type} {enc : TypeId × Value → H} {P : Program} {w : World}
theorem HG {a : Addr} {v : Value} (h : w.cell? a = some v) : a.spot = none ∧ bM (whole w) a.block a.off = some v := by
 unfold World.cell? at h
 unfold bM whole
 split at h
 ·rename_i c t fr hb
  split at h
  ·cases h
  ·rename_i hs
   rw [hb]
   exact ⟨by simpa using hs, h⟩
 ·cases h
theorem NE {α : Type} {k : Nat} {R : Fz → List Value → α → Prop} {t e : TypeId} {fuel : Nat} {v : Value} {x : DataW H × List MemPlace} (ht : P.underlying t = some (.slice e)) (hc : P.cellsOf e = k) (hk : 0 < k)
    (h : DataW.trod enc P w 0 (fun _ => true) true fuel t [v] = some x)
    (hR : ∀ n cs y, cs.length = k → DataW.trod enc P w 0 (fun _ => true) true n e cs = some y → ∃ p, R (whole w) cs p) : ∃ l : List α, Sl k R (whole w) v l := by
 rcases Deep.open_slice ht h with ⟨h0, _⟩ | ⟨a, len, cap, m, n, D, Pl, h0, hb, hl, hm, hmm, _, hx⟩
 ·cases h0
  exact ⟨[], Sl.nil _ _ _⟩
 ·cases h0
  rw [hc] at hx
  have hlm : len ≤ m := by rw [hmm]; simp; exact hl
  have each : ∀ i, i < len → ∃ q : List Value × α, q.1.length = k ∧ (∀ j, j < k → w.cell? (a.add (i * k + j)) = q.1[j]?) ∧ R (whole w) q.1 q.2 := by
   intro i hi
   obtain ⟨cs', h1, h2⟩ := hx i (by omega)
   obtain ⟨h3, h4, h5⟩ := World.cells?_some h1
   obtain ⟨p, hp⟩ := hR n cs' _ h4 h2
   refine ⟨(cs', p), h4, fun j hj => ?_, hp⟩
   rw [← h5 j hj, JI]
  obtain ⟨L, hL, hall⟩ := zS len each
  have hk3 : ∀ x ∈ L.map (·.1), x.length = k := by
   intro x hx
   obtain ⟨q, hq, rfl⟩ := List.mem_map.1 hx
   obtain ⟨i, hi, rfl⟩ := List.mem_iff_getElem.1 hq
   exact (hall i hi).1
  refine ⟨L.map (·.2), L.map (·.1), ⟨some a, cap, by simp [hL], by simpa [hL] using hl, hm, (fun h => nomatch h), ?_⟩, AllR.of_get (by simp) (fun i h1 h2 => by simpa using (hall i (by simpa using h1)).2.2), hk3⟩
  by_cases h0 : len = 0
  ·left
   have : L = [] := List.eq_nil_of_length_eq_zero (by omega)
   simp [this]
  ·right
   have c0 := (hall 0 (by omega)).2.1 0 hk
   have hl0 := (hall 0 (by omega)).1
   rw [show 0 * k + 0 = 0 from by omega] at c0
   have c0' : w.cell? a = some ((L[0]'(by omega)).1[0]'(by omega)) := by
    have e : a.add 0 = a := by simp [Addr.add]
    rw [e] at c0
    rw [c0]; simp
   have hspot := (HG c0').1
   obtain ⟨b, o, sp⟩ := a
   simp at hspot
   subst hspot
   refine ⟨b, o, rfl, fun j u hu => ?_⟩
   have hjl : j < (L.map (·.1)).flatten.length := (List.getElem?_eq_some_iff.1 hu).1
   rw [fO hk3, List.length_map] at hjl
   have hi : j / k < L.length := Nat.div_lt_of_lt_mul (by rw [Nat.mul_comm]; exact hjl)
   have hr : j % k < k := Nat.mod_lt _ hk
   have hj : j / k * k + j % k = j := by rw [Nat.mul_comm]; exact Nat.div_add_mod _ _
   have hf := lU hk3 (j / k) (by simpa using hi) (j % k) hr
   rw [hj] at hf
   rw [hf] at hu
   have hc := (hall (j / k) hi).2.1 (j % k) hr
   rw [hj] at hc
   have hc' : w.cell? (Addr.add ⟨b, o, none⟩ j) = some u := by rw [hc]; simpa using hu
   have e : Addr.add ⟨b, o, none⟩ j = ⟨b, o + j, none⟩ := by unfold Addr.add; split <;> simp_all
   rw [e] at hc'
   exact (HG hc').2
end

inductive OpSpec where
  | pure
  | const (v : Value)
  | rel (R : Value → World → Prop)
def Hq (R : Value → World → Prop) : Prop := ∀ v w w', R v w → Below w.heap.size w w' → R v w'
abbrev eX := Nat → Option Value
def upd (Vs : eX) (i : Nat) (v : Value) : eX := fun j => if j = i then some v else Vs j
theorem YP (Vs : eX) {i j : Nat} (h : i ≠ j) (v u : Value) : upd (upd Vs i v) j u = upd (upd Vs j u) i v := by
 funext k
 simp only [upd]
 by_cases h1 : k = i
 ·subst h1
  simp [h]
 ·by_cases h2 : k = j
  ·subst h2
   simp [h1]
  ·simp [h1, h2]
def lB (s : OpSpec) (v : Value) (w : World) : Prop := match s with | .rel R => R v w | _ => True
def oD (s : OpSpec) (Vs : eX) (i : Nat) (v : Value) : eX := match s with | .rel _ => upd Vs i v | _ => Vs
theorem VO (s t : OpSpec) (Vs : eX) {i j : Nat} (h : i ≠ j) (v u : Value) : oD t (oD s Vs i v) j u = oD s (oD t Vs j u) i v := by
 cases s <;> cases t <;> simp [oD]
 exact YP Vs h v u
def mY (md : Region.Mode) (ops : Array Oper) : Nat → Nat → Nat → Bool
  | 0, _, _ => false
  | f + 1, j, i => match ops[j]? with
    | some o => o.after.any fun e => Region.binds md e && (e.on == i || mY md ops f e.on i)
    | none => false
section
variable {P : Program} {ops : Array Oper} {md : Region.Mode} {C : World → Prop} {Sp : Nat → OpSpec}
theorem BY {n : Nat} {listed : Array Bool} (inv : HeadInv md ops n listed) : ∀ (f x i : Nat), listed.getD x false = true → mY md ops f x i = true → listed.getD i false = true
  | 0, _, _, _, h => by simp [mY] at h
  | f + 1, x, i, hx, h => by
    unfold mY at h
    split at h
    · rename_i o ho
      obtain ⟨e, he, hb⟩ := Array.any_eq_true'.1 h
      simp only [Bool.and_eq_true, Bool.or_eq_true, beq_iff_eq] at hb
      have hl := inv.closed x o ho hx e he hb.1
      rcases hb.2 with h1 | h1
      · rw [h1] at hl; exact hl
      · exact BY inv f e.on i hl h1
    · cases h
theorem nX {n : Nat} {listed : Array Bool} (inv : HeadInv md ops n listed) {j : Nat} (hj : j ∈ Region.ready md ops listed) (f i : Nat) (h : mY md ops f j i = true) : listed.getD i false = true := by
 cases f with
 | zero => simp [mY] at h
 | succ f =>
  obtain ⟨_, o, ho, hall⟩ := mem_ready.1 hj
  unfold mY at h
  rw [ho] at h
  obtain ⟨e, he, hb⟩ := Array.any_eq_true'.1 h
  simp only [Bool.and_eq_true, Bool.or_eq_true, beq_iff_eq] at hb
  have hl := hall e he hb.1
  rcases hb.2 with h1 | h1
  ·rw [h1] at hl; exact hl
  ·exact BY inv f e.on i hl h1
def Facts (Sp : Nat → OpSpec) (Vs : eX) (w : World) : Prop := ∀ i v, Vs i = some v → lB (Sp i) v w
def FactsAt (md : Region.Mode) (ops : Array Oper) (Sp : Nat → OpSpec) (j : Nat) (Vs : eX) (w : World) : Prop := ∀ i v, mY md ops ops.size j i = true → Vs i = some v → lB (Sp i) v w
theorem wL {i j : Nat} (h : mY md ops ops.size j i = false) (Vs : eX) (v : Value) (w : World) : FactsAt md ops Sp j (oD (Sp i) Vs i v) w ↔ FactsAt md ops Sp j Vs w := by
 have e : ∀ k, mY md ops ops.size j k = true → oD (Sp i) Vs i v k = Vs k := by
  intro k hk
  cases Sp i with
  | pure => rfl
  | const _ => rfl
  | rel R =>
   show upd Vs i v k = _
   unfold upd
   rw [if_neg (by rintro rfl; rw [h] at hk; cases hk)]
 constructor
 ·intro H k u hk hu; exact H k u hk (by rw [e k hk]; exact hu)
 ·intro H k u hk hu; exact H k u hk (by rw [← e k hk]; exact hu)
def qI (Φ : Value → World → Prop) (e : Ending) (w' : World) : Prop := ∃ v, e = .returned v ∧ Φ v w'
def vT (v : Value) (w : World) (u : Value) (w' : World) : Prop := u = v ∧ Below w.heap.size w w'
def lC (R : Value → World → Prop) (w : World) (u : Value) (w' : World) : Prop := R u w' ∧ Below w.heap.size w w'
def HH (P : Program) (w : World) (Φ : Value → World → Prop) : Result Next → Prop
  | .ok (.value u) w' => Φ u w'
  | .ok .skip w' => Φ undef w'
  | .ok (.enter f args) w' => w' = w ∧ Calls P f args w (qI Φ)
  | _ => False
def kZ (P : Program) (o : Oper) (a : Act) (w : World) (Φ : Value → World → Prop) : Prop := HH P w Φ ((execOp a.eval o).run P w)
def zT (w : World) (v : Value) : Result Next → Prop
  | .ok (.value u) w' => w' = w ∧ u = v
  | .ok .skip w' => w' = w ∧ undef = v
  | _ => False
def PureAt (P : Program) (o : Oper) (a : Act) (w : World) (v : Value) : Prop := zT w v ((execOp a.eval o).run P w)
theorem PureAt.unique {o : Oper} {a : Act} {w : World} {v u : Value} (h : PureAt P o a w v) (k : PureAt P o a w u) : v = u := by
 unfold PureAt at *
 generalize (execOp a.eval o).run P w = r at *
 cases r with
 | ok n w' => cases n <;> simp only [zT] at h k <;> exact h.2.symm.trans k.2
 | halt x w' => simp only [zT] at h
theorem Oper.wp_of_does {o : Oper} {a : Act} {w : World} {Φ : Value → World → Prop} {K : Act → World → Prop} {Q' : Exit → Act → World → Prop} (h : kZ P o a w Φ) (hk : ∀ v w', Φ v w' → K (a.put o.dst v) w') : o.wp P a w K Q' := by
 unfold kZ at h
 unfold Oper.wp
 generalize (execOp a.eval o).run P w = r at *
 cases r with
 | ok n w' =>
  cases n <;> simp only [HH] at h <;> simp only [Oper.upon]
  case value u => exact hk _ _ h
  case skip => exact hk _ _ h
  case enter f args =>
   obtain ⟨rfl, h⟩ := h
   exact h.mono fun e w'' hh => by obtain ⟨v, he, hw⟩ := hh; subst he; exact hk _ _ hw
 | halt x w' => simp only [HH] at h
theorem Oper.wp_of_pure {o : Oper} {a : Act} {w : World} {v : Value} {K : Act → World → Prop} {Q' : Exit → Act → World → Prop} (h : PureAt P o a w v) (hk : K (a.put o.dst v) w) : o.wp P a w K Q' := by
 unfold PureAt at h
 unfold Oper.wp
 generalize (execOp a.eval o).run P w = r at *
 cases r with
 | ok n w' =>
  cases n <;> simp only [zT] at h <;> simp only [Oper.upon]
  case value u => obtain ⟨rfl, rfl⟩ := h; exact hk
  case skip => obtain ⟨rfl, rfl⟩ := h; exact hk
 | halt x w' => simp only [zT] at h
def Ob (P : Program) (md : Region.Mode) (ops : Array Oper) (C : World → Prop) (Sp : Nat → OpSpec) (i : Nat) (o : Oper) (a : Act) (Vs : eX) (S : Value → Prop) : Prop :=
  match Sp i with
  | .pure => ∃ v, S = (fun u => u = v) ∧ ∀ w, C w → PureAt P o a w v
  | .const v => S = (fun u => u = v) ∧ ∀ w, C w → FactsAt md ops Sp i Vs w → kZ P o a w (vT v w)
  | .rel R => S = (fun _ => True) ∧ ∀ w, C w → FactsAt md ops Sp i Vs w → kZ P o a w (lC R w)
theorem Ob.some {i : Nat} {o : Oper} {a : Act} {Vs : eX} {S : Value → Prop} (h : Ob P md ops C Sp i o a Vs S) : ∃ v, S v := by
 unfold Ob at h
 split at h
 ·obtain ⟨v, rfl, _⟩ := h; exact ⟨v, rfl⟩
 ·rename_i v _; obtain ⟨rfl, _⟩ := h; exact ⟨v, rfl⟩
 ·obtain ⟨rfl, _⟩ := h; exact ⟨undef, trivial⟩
theorem Ob.unique (hC : ∃ w, C w) {i : Nat} {o : Oper} {a : Act} {Vs : eX} {S T : Value → Prop} (h : Ob P md ops C Sp i o a Vs S) (k : Ob P md ops C Sp i o a Vs T) : S = T := by
 obtain ⟨w, hw⟩ := hC
 unfold Ob at h k
 split at h
 ·rename_i e
  simp only [e] at k
  obtain ⟨v, rfl, h1⟩ := h
  obtain ⟨u, rfl, k1⟩ := k
  rw [(h1 w hw).unique (k1 w hw)]
 ·rename_i v e
  simp only [e] at k
  rw [h.1, k.1]
 ·rename_i R e
  simp only [e] at k
  rw [h.1, k.1]
theorem Ob.congr {i : Nat} {o : Oper} {a a' : Act} {Vs Vs' : eX} {S : Value → Prop} (he : execOp a'.eval o = execOp a.eval o) (hf : ∀ w, FactsAt md ops Sp i Vs' w ↔ FactsAt md ops Sp i Vs w) (h : Ob P md ops C Sp i o a Vs S) : Ob P md ops C Sp i o a' Vs' S := by
 unfold Ob at *
 split
 ·rename_i e
  simp only [e] at h
  obtain ⟨v, h1, h2⟩ := h
  exact ⟨v, h1, fun w hw => by have := h2 w hw; unfold PureAt at *; rw [he]; exact this⟩
 ·rename_i v e
  simp only [e] at h
  exact ⟨h.1, fun w hw hF => by have := h.2 w hw ((hf w).1 hF); unfold kZ at *; rw [he]; exact this⟩
 ·rename_i R e
  simp only [e] at h
  exact ⟨h.1, fun w hw hF => by have := h.2 w hw ((hf w).1 hF); unfold kZ at *; rw [he]; exact this⟩
def gOp (P : Program) (md : Region.Mode) (ops : Array Oper) (C : World → Prop) (Sp : Nat → OpSpec) (i : Nat) (K : Act → eX → Prop) (a : Act) (Vs : eX) : Prop :=
  match ops[i]? with
  | none => K a Vs
  | some o => if Region.wanted o (yielded ops a.tmps) = true then ∃ S, Ob P md ops C Sp i o a Vs S ∧ ∀ v, S v → K (a.put o.dst v) (oD (Sp i) Vs i v) else K (a.put o.dst undef) Vs
theorem qJ {i : Nat} {K K' : Act → eX → Prop} {a : Act} {Vs : eX} (h : ∀ a Vs, K a Vs → K' a Vs) (hh : gOp P md ops C Sp i K a Vs) : gOp P md ops C Sp i K' a Vs := by
 unfold gOp at *
 split
 ·rename_i e; simp only [e] at hh; exact h _ _ hh
 ·rename_i o e
  simp only [e] at hh
  split
  ·rename_i hw; rw [if_pos hw] at hh; obtain ⟨S, h1, h2⟩ := hh; exact ⟨S, h1, fun v hv => h _ _ (h2 v hv)⟩
  ·rename_i hw; rw [if_neg hw] at hh; exact h _ _ hh
theorem NF {i : Nat} {K : Act → eX → Prop} {a : Act} {Vs : eX} (hh : gOp P md ops C Sp i K a Vs) : ∃ a' Vs', K a' Vs' := by
 unfold gOp at hh
 split at hh
 ·exact ⟨_, _, hh⟩
 ·split at hh
  ·obtain ⟨S, h1, h2⟩ := hh
   obtain ⟨v, hv⟩ := h1.some
   exact ⟨_, _, h2 v hv⟩
  ·exact ⟨_, _, hh⟩
theorem NH (hC : ∃ w, C w) {i j : Nat} {oi oj : Oper} (hi : ops[i]? = some oi) (hj : ops[j]? = some oj) (hij : i ≠ j) (hap : oi.apart ops oj = true)
    (hsi : ∀ cs b, oi.op ≠ .select cs b) (hsj : ∀ cs b, oj.op ≠ .select cs b) (hni : mY md ops ops.size j i = false) (hnj : mY md ops ops.size i j = false)
    {K : Act → eX → Prop} {a : Act} {Vs : eX} (h : gOp P md ops C Sp i (gOp P md ops C Sp j K) a Vs) : gOp P md ops C Sp j (gOp P md ops C Sp i K) a Vs := by
 obtain ⟨h1, h2, h3⟩ := Oper.apart_spec hap
 have wj : ∀ (a : Act) (v : Value), Region.wanted oj (yielded ops (a.put oi.dst v).tmps) = Region.wanted oj (yielded ops a.tmps) := fun a v => wanted_put oj a oi.dst v h1
 have wi : ∀ (a : Act) (v : Value), Region.wanted oi (yielded ops (a.put oj.dst v).tmps) = Region.wanted oi (yielded ops a.tmps) := fun a v => wanted_put oi a oj.dst v h3
 have ej : ∀ (a : Act) (v : Value), execOp (a.put oi.dst v).eval oj = execOp a.eval oj := fun a v => execOp_put oj hsj a oi.dst v h1
 have ei : ∀ (a : Act) (v : Value), execOp (a.put oj.dst v).eval oi = execOp a.eval oi := fun a v => execOp_put oi hsi a oj.dst v h3
 unfold gOp at h ⊢
 simp only [hi, hj] at h ⊢
 by_cases Wi : Region.wanted oi (yielded ops a.tmps) = true
 ·rw [if_pos Wi] at h
  obtain ⟨S, hS, hall⟩ := h
  obtain ⟨v0, hv0⟩ := hS.some
  by_cases Wj : Region.wanted oj (yielded ops a.tmps) = true
  ·rw [if_pos Wj]
   have hall' : ∀ v, S v → ∃ T, Ob P md ops C Sp j oj a Vs T ∧ ∀ u, T u → K ((a.put oi.dst v).put oj.dst u) (oD (Sp j) (oD (Sp i) Vs i v) j u) := by
    intro v hv
    have := hall v hv
    rw [if_pos (by rw [wj]; exact Wj)] at this
    obtain ⟨T, hT, hK⟩ := this
    exact ⟨T, hT.congr (ej a v).symm (fun w => (wL hni Vs v w).symm), hK⟩
   obtain ⟨T, hT, _⟩ := hall' v0 hv0
   refine ⟨T, hT, fun u hu => ?_⟩
   rw [if_pos (by rw [wi]; exact Wi)]
   refine ⟨S, hS.congr (ei a u) (fun w => wL hnj Vs u w), fun v hv => ?_⟩
   obtain ⟨T', hT', hK⟩ := hall' v hv
   have := hK u (by rw [← hT.unique hC hT']; exact hu)
   rwa [Act.put_comm a v u h2, VO (Sp i) (Sp j) Vs hij v u] at this
  ·rw [if_neg Wj, if_pos (by rw [wi]; exact Wi)]
   refine ⟨S, hS.congr (ei a undef) (fun w => Iff.rfl), fun v hv => ?_⟩
   have := hall v hv
   rw [if_neg (by rw [wj]; exact Wj)] at this
   rwa [Act.put_comm a v undef h2] at this
 ·rw [if_neg Wi] at h
  by_cases Wj : Region.wanted oj (yielded ops a.tmps) = true
  ·rw [if_pos (by rw [wj]; exact Wj)] at h
   obtain ⟨T, hT, hK⟩ := h
   rw [if_pos Wj]
   refine ⟨T, hT.congr (ej a undef).symm (fun w => Iff.rfl), fun u hu => ?_⟩
   rw [if_neg (by rw [wi]; exact Wi)]
   have := hK u hu
   rwa [Act.put_comm a undef u h2] at this
  ·rw [if_neg (by rw [wj]; exact Wj)] at h
   rw [if_neg Wj, if_neg (by rw [wi]; exact Wi)]
   rwa [Act.put_comm a undef undef h2] at h
def yM (P : Program) (md : Region.Mode) (ops : Array Oper) (C : World → Prop) (Sp : Nat → OpSpec) (n : Nat) (L : Array Bool → Act → eX → Prop) : Nat → Array Bool → Act → eX → Prop
  | 0, listed, a, Vs => L listed a Vs
  | f + 1, listed, a, Vs => Region.ready md ops listed ≠ [] ∧ ∀ i ∈ Region.ready md ops listed, i < n ∧ gOp P md ops C Sp i (yM P md ops C Sp n L f (listed.setIfInBounds i true)) a Vs
theorem lV (hst : ∀ i v w w', lB (Sp i) v w → Below w.heap.size w w' → lB (Sp i) v w') (hCE : ∀ w w', C w → Below w.heap.size w w' → C w') {n g : Nat} {L : Array Bool → Act → eX → Prop} {Q' : Exit → Act → World → Prop}
    (hL : ∀ listed a Vs w, C w → Facts Sp Vs w → L listed a Vs → wpAny P md ops Q' g listed a w) :
    ∀ (f : Nat) (listed : Array Bool) (a : Act) (Vs : eX) (w : World), C w → Facts Sp Vs w → yM P md ops C Sp n L f listed a Vs → wpAny P md ops Q' (f + g) listed a w
  | 0, listed, a, Vs, w, hc, hF, h => by rw [Nat.zero_add]; exact hL _ _ _ _ hc hF h
  | f + 1, listed, a, Vs, w, hc, hF, h => by
    rw [show f + 1 + g = (f + g) + 1 by omega]
    refine ⟨fun h0 => absurd h0 h.1, fun i hi => ?_⟩
    have hg := (h.2 i hi).2
    unfold gOp at hg
    unfold wpOp
    split
    · rename_i e
      simp only [e] at hg
      exact lV hst hCE hL f _ a Vs w hc hF hg
    · rename_i o e
      simp only [e] at hg
      split
      · rename_i hw
        rw [if_pos hw] at hg
        obtain ⟨S, hS, hall⟩ := hg
        left
        unfold Ob at hS
        split at hS
        · rename_i es
          obtain ⟨v, rfl, hp⟩ := hS
          have hn := hall v rfl
          simp only [es, oD] at hn
          exact Oper.wp_of_pure (hp w hc) (lV hst hCE hL f _ _ Vs w hc hF hn)
        · rename_i v es
          obtain ⟨rfl, hp⟩ := hS
          have hn := hall v rfl
          simp only [es, oD] at hn
          refine Oper.wp_of_does (hp w hc fun i' v' _ hv => hF i' v' hv) fun u w' ⟨hu, hb⟩ => ?_
          subst hu
          exact lV hst hCE hL f _ _ Vs w' (hCE w w' hc hb) (fun i' v' hv => hst i' v' w w' (hF i' v' hv) hb) hn
        · rename_i R es
          obtain ⟨rfl, hp⟩ := hS
          refine Oper.wp_of_does (hp w hc fun i' v' _ hv => hF i' v' hv) fun u w' ⟨hu, hb⟩ => ?_
          have hn := hall u trivial
          refine lV hst hCE hL f _ _ _ w' (hCE w w' hc hb) (fun i' v' hv => ?_) hn
          simp only [es, oD] at hv
          unfold upd at hv
          split at hv
          · rename_i e'
            subst e'
            cases hv
            simp only [es, lB]
            exact hu
          · exact hst i' v' w w' (hF i' v' hv) hb
      · rename_i hw
        rw [if_neg hw] at hg
        exact lV hst hCE hL f _ _ Vs w hc hF hg
theorem JJ (hC : ∃ w, C w) {n i : Nat} {oi : Oper} {L : Array Bool → Act → eX → Prop} (hi : ops[i]? = some oi) (hsel : ∀ (j : Nat) (o : Oper) cs b, ops[j]? = some o → o.op ≠ .select cs b)
    (hs : Region.sinkB md ops n = true) (hc : Region.chainB md ops n = true) (hn : n < ops.size) (hin : i < n)
    (hdone : ∀ listed a Vs, L listed a Vs → ∀ j ∈ Region.ready md ops listed, n ≤ j) :
    ∀ (f : Nat) (listed : Array Bool) (a : Act) (Vs : eX), HeadInv md ops n listed →
      (∀ j oj, ops[j]? = some oj → j ≠ i → listed.getD j true = false → (∀ e ∈ oj.after, Region.binds md e = true → e.on ≠ i) → oi.apart ops oj = true) →
      i ∈ Region.ready md ops listed →
      gOp P md ops C Sp i (yM P md ops C Sp n L f (listed.setIfInBounds i true)) a Vs → yM P md ops C Sp n L (f + 1) listed a Vs := by
 intro f
 induction f with
 | zero =>
  intro listed a Vs inv _ hr H
  have hun := (mem_ready.1 hr).1
  refine ⟨fun h => (by rw [h] at hr; cases hr), fun j hj => ?_⟩
  have hjn : j < n := by
   rcases Nat.lt_or_ge j n with h | h
   ·exact h
   ·exact absurd hj (tail_waits hs hc hn inv _ i rfl hin hun j h)
  refine ⟨hjn, ?_⟩
  by_cases hji : j = i
  ·subst hji; exact H
  ·obtain ⟨a', Vs', hL⟩ := NF H
   have := hdone _ _ _ hL j (ready_mono hj hji)
   omega
 | succ f ih =>
  intro listed a Vs inv hfree hr H
  have hun := (mem_ready.1 hr).1
  refine ⟨fun h => (by rw [h] at hr; cases hr), fun j hj => ?_⟩
  have hjn : j < n := by
   rcases Nat.lt_or_ge j n with h | h
   ·exact h
   ·exact absurd hj (tail_waits hs hc hn inv _ i rfl hin hun j h)
  refine ⟨hjn, ?_⟩
  by_cases hji : j = i
  ·subst hji; exact H
  ·obtain ⟨hjun, oj, hoj, hall⟩ := mem_ready.1 hj
   have hnot : ∀ e ∈ oj.after, Region.binds md e = true → e.on ≠ i := fun e he hb heq => by
    have h1 := hall e he hb
    rw [heq, getD_both hun] at h1
    cases h1
   have a1 : mY md ops ops.size j i = false := by
    cases hx : mY md ops ops.size j i with
    | false => rfl
    | true => have := nX inv hj _ _ hx; rw [getD_both hun] at this; cases this
   have a2 : mY md ops ops.size i j = false := by
    cases hx : mY md ops ops.size i j with
    | false => rfl
    | true => have := nX inv hr _ _ hx; rw [getD_both hjun] at this; cases this
   have H1 : gOp P md ops C Sp i (gOp P md ops C Sp j (yM P md ops C Sp n L f ((listed.setIfInBounds i true).setIfInBounds j true))) a Vs :=
    qJ (fun a' Vs' h => (h.2 j (ready_mono hj hji)).2) H
   have H2 := NH hC hi hoj (Ne.symm hji) (hfree j oj hoj hji hjun hnot) (fun cs b => hsel i oi cs b hi) (fun cs b => hsel j oj cs b hoj) a1 a2 H1
   have hfree' : ∀ k ok, ops[k]? = some ok → k ≠ i → (listed.setIfInBounds j true).getD k true = false →
     (∀ e ∈ ok.after, Region.binds md e = true → e.on ≠ i) → oi.apart ops ok = true := fun k ok hk hki hun' hno => by
    refine hfree k ok hk hki ?_ hno
    by_cases hjk : j = k
    ·subst hjk; exact hjun
    ·rw [getD_set_ne true hjk] at hun'; exact hun'
   refine qJ (fun a' Vs' h3 => ih (listed.setIfInBounds j true) a' Vs' (inv.set hj hjn) hfree' (ready_mono hr (Ne.symm hji)) ?_) H2
   rw [Array.setIfInBounds_comm _ _ hji]
   exact h3
def wpG (P : Program) (md : Region.Mode) (ops : Array Oper) (C : World → Prop) (Sp : Nat → OpSpec) (Lq : Act → eX → Prop) : List Oper → Nat → Act → eX → Prop
  | [], _, a, Vs => Lq a Vs
  | o :: l, k, a, Vs => if Region.wanted o (yielded ops a.tmps) = true then ∃ S, Ob P md ops C Sp k o a Vs S ∧ ∀ v, S v → wpG P md ops C Sp Lq l (k + 1) (a.put o.dst v) (oD (Sp k) Vs k v) else wpG P md ops C Sp Lq l (k + 1) (a.put o.dst undef) Vs
theorem BZ (hC : ∃ w, C w) {n g : Nat} {Lq : Act → eX → Prop} (hsel : Region.noSelect ops = true) (hs : Region.sinkB md ops n = true) (hc : Region.chainB md ops n = true) (hn : n < ops.size) :
    ∀ (l : List Oper) (k : Nat) (listed : Array Bool) (a : Act) (Vs : eX), (∀ j, j < l.length → l[j]? = ops[k + j]?) → k + l.length = n → HeadInv md ops n listed →
    Region.lexHead md ops g l.length k listed = true → wpG P md ops C Sp Lq l k a Vs →
    yM P md ops C Sp n (fun listed' a' Vs' => Region.seqB md ops g n listed' = true ∧ Lq a' Vs') l.length listed a Vs
  | [], k, listed, a, Vs, _, hk, _, hB, h => by
    have : k = n := by simpa using hk
    subst this
    exact ⟨by simpa [Region.lexHead] using hB, h⟩
  | o :: l, k, listed, a, Vs, hl, hk, inv, hB, h => by
    have h0 : ops[k]? = some o := by simpa using (hl 0 (by simp)).symm
    simp only [List.length_cons, Region.lexHead, Bool.and_eq_true] at hB
    obtain ⟨⟨hr, hf⟩, hB'⟩ := hB
    have hkn : k < n := by simp only [List.length_cons] at hk; omega
    have hr' : k ∈ Region.ready md ops listed := by simpa using hr
    have hg : gOp P md ops C Sp k (wpG P md ops C Sp Lq l (k + 1)) a Vs := by unfold gOp; simp only [h0]; exact h
    exact JJ hC h0 (Region.noSelect_spec hsel) hs hc hn hkn (fun listed' a' Vs' hL => seqB_ready hL.1) l.length listed a Vs inv (Region.free_spec h0 hf) hr'
      (qJ (fun a' Vs' h' => BZ hC hsel hs hc hn l (k + 1) _ a' Vs' (fun j hj => by have := hl (j + 1) (by simp; omega); simpa [Nat.add_assoc, Nat.add_comm 1 j] using this) (by simp only [List.length_cons] at hk; omega) (inv.set hr' hkn) hB' h') hg)
end
theorem CA {P : Program} {id : Nat} {Q : Exit → Act → World → Prop} {a : Act} {w : World} {l : List Oper} (n : Nat) (Sp : Nat → OpSpec) (hm : P.follows .mixedOrders = true) (hB : Region.lexTailB .any l.toArray n = true)
    (hst : ∀ i v w w', lB (Sp i) v w → Below w.heap.size w w' → lB (Sp i) v w')
    (h : wpG P .any l.toArray (fun w' => Below w.heap.size w w') Sp (fun a' Vs => ∀ w', Below w.heap.size w w' → Facts Sp Vs w' → wpList P l.toArray Q (l.drop n) a' w') (l.take n) 0 a (fun _ => none)) : (Code.region id l.toArray true).wp P Q a w := by
 simp only [Region.lexTailB, Bool.and_eq_true, decide_eq_true_eq] at hB
 obtain ⟨⟨⟨⟨hsel, hn⟩, hs⟩, hc⟩, hlex⟩ := hB
 have hn' : n < l.length := by simpa using hn
 have htl : (l.take n).length = n := by simp; omega
 have hdl : (l.drop n).length = l.toArray.size - n := by simp
 have inv0 : HeadInv .any l.toArray n (Array.replicate l.toArray.size false) :=
  ⟨by simp, fun j oj _ hl => (by rw [getD_replicate_false] at hl; cases hl), fun t _ ht => getD_in (by simpa using ht) (getD_replicate_false _ _)⟩
 have H := BZ (md := .any) (g := l.toArray.size - n) ⟨w, Below.refl _ _⟩ hsel hs hc hn (l.take n) 0 _ a _ (fun j hj => by
  have hj' : j < n := by rw [htl] at hj; exact hj
  simp [hj']) (by simpa using htl) inv0 (by rw [htl]; exact hlex) h
 refine wp_region_any hm ?_
 have := lV (Q' := Q) (g := l.toArray.size - n) hst (fun w1 w2 h1 h2 => h1.trans (h2.mono h1.size)) (fun listed a' Vs w' hC hF hL => by
  have := wpAny_of_seq (md := .any) (Q' := Q) (l.drop n) n listed a' w' (fun j => by simp [List.getElem?_drop]) (by rw [hdl]; exact hL.1) (hL.2 w' hC hF)
  rwa [hdl] at this) _ _ _ _ ({ w with drawn := w.drawn + 1 } : World) (Below.refl w.heap.size w).drew (fun i v h => by cases h) H
 rw [htl, show n + (l.toArray.size - n) = l.toArray.size by omega] at this
 exact this
section
variable {P : Program} {ops : Array Oper} {md : Region.Mode} {C : World → Prop} {Sp : Nat → OpSpec} {Lq : Act → eX → Prop} {o : Oper} {l : List Oper} {k : Nat} {a : Act} {Vs : eX}
@[go_sem] theorem Hh (w w' : World) (Φ : Value → World → Prop) (u : Value) : HH P w Φ (.ok (.value u) w') = Φ u w' := rfl
@[go_sem] theorem Hi (w w' : World) (Φ : Value → World → Prop) (f : FuncId) (args : Array Value) : HH P w Φ (.ok (.enter f args) w') = (w' = w ∧ Calls P f args w (qI Φ)) := rfl
@[go_sem] theorem Hj (w w' : World) (v u : Value) : zT w v (.ok (.value u) w') = (w' = w ∧ u = v) := rfl
theorem Dn (h : Lq a Vs) : wpG P md ops C Sp Lq [] k a Vs := h
theorem YQ (hw : Region.wanted o (yielded ops a.tmps) = true) (hs : Sp k = .pure) (v : Value) (h : ∀ w, C w → PureAt P o a w v) (hn : wpG P md ops C Sp Lq l (k + 1) (a.put o.dst v) Vs) : wpG P md ops C Sp Lq (o :: l) k a Vs := by
 unfold wpG
 rw [if_pos hw]
 refine ⟨fun u => u = v, by unfold Ob; rw [hs]; exact ⟨v, rfl, h⟩, fun u hu => ?_⟩
 subst hu
 rw [hs]
 exact hn
theorem VP (hw : Region.wanted o (yielded ops a.tmps) = true) {v : Value} (hs : Sp k = .const v) (h : ∀ w, C w → FactsAt md ops Sp k Vs w → kZ P o a w (vT v w)) (hn : wpG P md ops C Sp Lq l (k + 1) (a.put o.dst v) Vs) : wpG P md ops C Sp Lq (o :: l) k a Vs := by
 unfold wpG
 rw [if_pos hw]
 refine ⟨fun u => u = v, by unfold Ob; rw [hs]; exact ⟨rfl, h⟩, fun u hu => ?_⟩
 subst hu
 rw [hs]
 exact hn
theorem Do (hw : Region.wanted o (yielded ops a.tmps) = true) {R : Value → World → Prop} (hs : Sp k = .rel R) (h : ∀ w, C w → FactsAt md ops Sp k Vs w → kZ P o a w (lC R w)) (hn : ∀ v, wpG P md ops C Sp Lq l (k + 1) (a.put o.dst v) (upd Vs k v)) : wpG P md ops C Sp Lq (o :: l) k a Vs := by
 unfold wpG
 rw [if_pos hw]
 refine ⟨fun _ => True, by unfold Ob; rw [hs]; exact ⟨rfl, h⟩, fun u _ => ?_⟩
 rw [hs]
 exact hn u
theorem YR (hw : Region.wanted o (yielded ops a.tmps) = false) (hn : wpG P md ops C Sp Lq l (k + 1) (a.put o.dst undef) Vs) : wpG P md ops C Sp Lq (o :: l) k a Vs := by
 unfold wpG
 rw [if_neg (by rw [hw]; exact Bool.false_ne_true)]
 exact hn
end
def Made (w0 : World) (F : Fz) (R : Fz → Value → Prop) (v : Value) (w : World) : Prop := ∃ F', Gr w0 F w F' ∧ R F' v
theorem Made.stable {w0 : World} {F : Fz} {R : Fz → Value → Prop} {v : Value} {w w' : World} (h : Made w0 F R v w) (hb : Below w.heap.size w w') : Made w0 F R v w' := by
 obtain ⟨F', g, r⟩ := h
 exact ⟨F', g.trans (Gr.of_below g.sat hb), r⟩
theorem cS {P : Program} {f : FuncId} {args : Array Value} {w0 w : World} {F : Fz} {R : Fz → Value → Prop} (hs : Sat w0 F) (hC : Below w0.heap.size w0 w) (h : Calls P f args w (dB w F R)) : Calls P f args w (qI (lC (Made w0 F R) w)) :=
  h.mono fun e w' hh => by
    obtain ⟨v, F', he, g, r⟩ := hh
    exact ⟨v, he, ⟨F', (Gr.of_below hs hC).trans g, r⟩, g.below⟩
theorem iB {P : Program} {f : FuncId} {args : Array Value} {w : World} {v : Value} (h : Calls P f args w (cU w v)) : Calls P f args w (qI (vT v w)) :=
  h.mono fun _ _ hh => ⟨v, hh.1, rfl, hh.2⟩
inductive Mark where
  | is (v : Value)
  | made (R : Fz → Value → Prop)
  | rel (R : Value → World → Prop) (st : ∀ v w w', R v w → Below w.heap.size w w' → R v w')
def gI (W : World) (F : Fz) (L : List (Nat × Mark)) (i : Nat) : OpSpec :=
  match L.lookup i with
  | some (.is v) => .const v
  | some (.made R) => .rel (Made W F R)
  | some (.rel R _) => .rel R
  | none => .pure
theorem vL {W : World} {F : Fz} {L : List (Nat × Mark)} : ∀ i v w w', lB (gI W F L i) v w → Below w.heap.size w w' → lB (gI W F L i) v w' := by
 intro i v w w' h hb
 unfold gI at *
 split
 ·trivial
 ·rename_i R e
  simp only [e] at h
  exact Made.stable h hb
 ·rename_i R st e
  simp only [e] at h
  exact st _ _ _ h hb
 ·trivial
theorem CB {P : Program} {id : Nat} {Q : Exit → Act → World → Prop} {a : Act} {W : World} {l : List Oper} (F : Fz) (n : Nat) (L : List (Nat × Mark)) (hm : P.follows .mixedOrders = true) (hB : Region.lexTailB .any l.toArray n = true)
    (h : wpG P .any l.toArray (fun w' => Below W.heap.size W w') (gI W F L) (fun a' Vs => ∀ w', Below W.heap.size W w' → Facts (gI W F L) Vs w' → wpList P l.toArray Q (l.drop n) a' w') (l.take n) 0 a (fun _ => none)) : (Code.region id l.toArray true).wp P Q a W :=
  CA n (gI W F L) hm hB vL h
theorem Facts.get {W : World} {F : Fz} {L : List (Nat × Mark)} {Vs : eX} {w : World} (h : Facts (gI W F L) Vs w) (i : Nat) {v : Value} {R : Fz → Value → Prop} (hv : Vs i = some v) (hL : gI W F L i = .rel (Made W F R)) : ∃ F', Gr W F w F' ∧ R F' v := by
 have := h i v hv
 rw [hL] at this
 exact this
theorem FactsAt.get {md : Region.Mode} {ops : Array Oper} {W : World} {F : Fz} {L : List (Nat × Mark)} {Vs : eX} {w : World} {j : Nat} (h : FactsAt md ops (gI W F L) j Vs w) (i : Nat) {v : Value} {R : Fz → Value → Prop} (ha : mY md ops ops.size j i = true) (hv : Vs i = some v) (hL : gI W F L i = .rel (Made W F R)) : ∃ F', Gr W F w F' ∧ R F' v := by
 have := h i v ha hv
 rw [hL] at this
 exact this
def both (F G : Fz) : Fz := fun b => match F b with | some o => some o | none => G b
theorem iM (F G : Fz) : Le F (both F G) := fun b o h => by simp [both, h]
theorem jN {F G : Fz} {w : World} (hF : Sat w F) (hG : Sat w G) : Le G (both F G) := fun b o h => by
  unfold both
  cases hb : F b with
  | none => exact h
  | some x => have h1 := hF b x hb; have h2 := hG b o h; rw [h1] at h2; simpa using h2
theorem Gr.both {w w' : World} {F F1 F2 : Fz} (h : Gr w F w' F1) (k : Gr w F w' F2) : Gr w F w' (both F1 F2) :=
  ⟨h.below, fun b hb => by unfold Proofs.YtilgpdpooildcaaGreatDoor.both; rw [h.old b hb]; cases hf : F b with | none => exact (k.old b hb).trans hf | some o => rfl, fun b o hb => by
    unfold Proofs.YtilgpdpooildcaaGreatDoor.both at hb
    split at hb
    · rename_i x hx; cases hb; exact h.sat b _ hx
    · exact k.sat b o hb⟩
theorem cZ (F : Fz) (w : World) (v : Value) (l : List UInt8) (hs : Sat w F) (hv : Bs F v l) (hm : l.length ≤ 100000) :
    Calls Tryz.prog 45 #[v] w (dB w F fun F' u => Bs F' u l) := by
 obtain ⟨a, c, rfl, hlc, hcm⟩ := hv.shape
 obtain ⟨i, hi, hz0, hz1, hz2⟩ := info_parts rK
 have hr := hv
 unfold Bs at hr
 have hnil := Lib.run_eql_slice_nil (P := Tryz.prog) w 25 5 a l.length c 0 0 Tryz.underlying25
 cases a with
 | none =>
  have hl : l = [] := by
   obtain ⟨a', c', h1, _, _, h4, _⟩ := hr
   cases h1
   exact List.eq_nil_of_length_eq_zero (h4 rfl).1
  subst hl
  simp only [List.length_nil] at hnil
  go_enter Tryz.func45, Tryz.ntmps45
  go_wp2_with fail
  go_ret
  exact ⟨_, F, rfl, Gr.refl hs, Bs.nil F⟩
 | some a =>
  have hown := World.ownsRow_lit (base := w.heap.size) (e := 5) (size := 1) w #[] 0 (Nat.le_refl _) (Nat.zero_le _) rfl
  have hsa := hs.alloc (.cells #[] 5)
  go_enter Tryz.func45, Tryz.ntmps45
  go_wp2_with (at_builtin; go_loud (refine pF rfl _ _ 25 rfl w.heap.size 5 i (.int .u8 0) 1 1 Tryz.underlying25 hi hz0 hz1 hz2 rfl (by decide) rfl hown rfl hsa hr (by simp) (BV _) (by unfold maxLen; omega) (by omega) (by simp) ?_))
  intro v1 w1 hown1 hg _
  have hb : Below w.heap.size w w1 := ((Below.refl _ _).alloc (Nat.le_refl _) _).grown hg (by simp) (fun g hg' => (hown.lt g hg').1)
  clear hg hown
  go_wp2_with fail
  go_ret
  obtain ⟨F', h1, h2⟩ := Gr.row hs hb hown1
  exact ⟨_, F', rfl, h1, by simpa [Bs] using h2⟩
def PrV (F : Fz) (v : Value) (k x : List UInt8) : Prop := ∃ a b, v = .agg #[a, b] ∧ Bs F a k ∧ Bs F b x
theorem PrV.mono {F F' : Fz} {v : Value} {k x : List UInt8} (h : PrV F v k x) (hl : Le F F') : PrV F' v k x := by
 obtain ⟨a, b, h1, h2, h3⟩ := h
 exact ⟨a, b, h1, h2.mono hl, h3.mono hl⟩
theorem gJ {P : Program} {k : FuncId} {vs : Array Value} {w : World} {b c : Bool} (h : Calls P k vs w (cU w (.bool b))) (e : b = c) : Calls P k vs w (cU w (.bool c)) := e ▸ h
theorem HI {P : Program} {f : FuncId} {fn : Func} {s : ChangeSpec} {c : OpenClaim}
    (h1 : (c.wf (OpenSpec.ofChange s)) = true)
    (h2 : (laidOutB P) = true)
    (h3 : (mapsRowed P) = true)
    (h4 : (fn.params.all (P.readableRec ·)) = true)
    (h5 : (namedTie P c.named s.vars) = true)
    (h6 : ((c.stops == [])) = true)
    (h7 : ((P.stops == [])) = true)
    (h8 : ((c.knobs == [])) = true)
    (h9 : ((P.stopKnobs == [])) = true)
    (a0 : ((c.inPlace == P.inPlace f)) = true)
    (a1 : ((c.unfollowed == P.unfollowed f)) = true)
    (a2 : ((c.recurses == P.recurses f)) = true)
    (a3 : ((c.named == P.varsNamed f)) = true)
    (a4 : ((c.maps == (fn.params.toList ++ s.plain.varTypes P).any (P.mapsRec ·))) = true)
    (a5 : ((c.ifaces == (fn.params.toList ++ s.plain.varTypes P).any (P.ifacesRec ·))) = true)
    (a6 : ((c.mapsOut == P.mapsAmong fn.resultTypes.toList)) = true)
    (a7 : ((c.loops == (fn.params.toList ++ s.plain.varTypes P).any (P.loopsFrom ·))) = true)
    (a8 : ((c.wideKeys == (fn.params.toList ++ s.plain.varTypes P ++ fn.resultTypes.toList).any (P.wideKeysFrom ·))) = true)
    (a9 : (s.vars.all (P.varReadable ·)) = true)
    (b0 : (fn.resultTypes.all (fun t => P.readableRec t && decide (t < P.types.size))) = true)
    (b1 : ((c.ifacesOut == fn.resultTypes.toList.any (P.ifacesRec ·))) = true)
    (b2 : ((c.loopsOut == fn.resultTypes.toList.any (P.loopsFrom ·))) = true)
    (b3 : ((c.plainKeys == P.plainKeys)) = true)
    (b4 : (c.shortTexts.isNone) = true)
    (b5 : (P.stopsHeard) = true)
    (b6 : (P.mayEnter) = true)
    (b7 : ((c.lifted == P.liftsFinal)) = true)
    (b9 : ((P.make == some c.make)) = true)
    (c0 : ((c.kinds == (if c.domain.isEmpty then [] else fn.params.toList.map fun t => match P.underlying t with | some (.int k) => some k | _ => none))) = true)
    (c1 : ((c.pinned == c.pinnedBy)) = true)
    (c2 : ((c.veiled == (fn.params.toList ++ s.plain.varTypes P ++ fn.resultTypes.toList).any (P.veiledRec ·))) = true)
    (c3 : (c.veiledFits P fn.params.toList (fn.params.toList ++ s.plain.varTypes P ++ fn.resultTypes.toList)) = true)
    : joinedFacts P f fn s c = true := by
 unfold joinedFacts
 simp only [Bool.and_eq_true]
 exact ⟨⟨⟨⟨⟨⟨⟨⟨⟨⟨⟨⟨⟨⟨⟨⟨⟨⟨⟨⟨⟨⟨⟨⟨⟨⟨⟨⟨⟨⟨⟨h1, h2⟩, h3⟩, h4⟩, h5⟩, h6⟩, h7⟩, h8⟩, h9⟩, a0⟩, a1⟩, a2⟩, a3⟩, a4⟩, a5⟩, a6⟩, a7⟩, a8⟩, a9⟩, b0⟩, b1⟩, b2⟩, b3⟩, b4⟩, b5⟩, b6⟩, b7⟩, b9⟩, c0⟩, c1⟩, c2⟩, c3⟩

theorem kK : ∀ (w r : List Char), (w.all fun c => c != Char.ofNat 32) = true → wordsSigns (w ++ Char.ofNat 32 :: r) = w :: wordsSigns r
  | [], _, _ => rfl
  | c :: w, r, h => by
    simp only [List.all_cons, Bool.and_eq_true] at h
    have ih := kK w r h.2
    have hc : c ≠ Char.ofNat 32 := by simpa using h.1
    rw [List.cons_append, wordsSigns, ih]
    intro e
    exact hc (e.trans (by decide))
theorem YS {P : Program} {S D : List Nat} (h : P.initOrder = String.ofList (([104, 97, 114, 110, 101, 115, 115].map Char.ofNat) ++ Char.ofNat 32 :: (S.map Char.ofNat ++ Char.ofNat 32 :: ([99, 117, 116].map Char.ofNat ++ Char.ofNat 32 :: D.map Char.ofNat))))
    (hs : isSumSigns (S.map Char.ofNat) = true) (hn : ((S.map Char.ofNat).all fun c => c != Char.ofNat 32) = true) : ∃ R, behindMainWord (wordsSigns P.initOrder.toList) = [99, 117, 116].map Char.ofNat :: R := by
 rw [h, String.toList_ofList, kK _ _ (by decide), kK _ _ hn, kK _ _ (by decide)]
 refine ⟨wordsSigns (D.map Char.ofNat), ?_⟩
 generalize wordsSigns (D.map Char.ofNat) = R
 show (if _ then _ else _) = _
 rw [hs, if_pos (by decide +kernel)]
theorem HJ (R : List (List Char)) : stripLifts liftWords ([99, 117, 116].map Char.ofNat :: R) = ([], [99, 117, 116].map Char.ofNat :: R) := by kernel_rfl
theorem NI {P : Program} (hw : ∃ R, behindMainWord (wordsSigns P.initOrder.toList) = [99, 117, 116].map Char.ofNat :: R) (h1 : P.laysLater = false) (h2 : P.bearsReflect = false) (h3 : P.doorFits [] = true) : P.mayEnter = true := by
 obtain ⟨R, hR⟩ := hw
 unfold Program.mayEnter
 rw [hR]
 simp only [HJ, h1, h2, h3]
 simp only [List.head?_cons]
 rw [show (some (List.map Char.ofNat [99, 117, 116]) == some "cut".toList) = true from by decide +kernel]
 simp
theorem JK {P : Program} (hw : ∃ R, behindMainWord (wordsSigns P.initOrder.toList) = [99, 117, 116].map Char.ofNat :: R) : P.headLifts = [] := by
 obtain ⟨R, hR⟩ := hw
 unfold Program.headLifts
 rw [hR]
 simp only [HJ]
 simp
theorem GD {P : Program} (hw : ∃ R, behindMainWord (wordsSigns P.initOrder.toList) = [99, 117, 116].map Char.ofNat :: R) : P.liftsFinal = false := by
 have hl := JK hw
 obtain ⟨R, hR⟩ := hw
 unfold Program.liftsFinal
 rw [hl]
 simp only [hR, List.head?_cons]
 rw [show (some (List.map Char.ofNat [99, 117, 116]) == some "carried".toList) = false from by decide +kernel]
 simp
theorem Dp {P : Program} (hw : ∃ R, behindMainWord (wordsSigns P.initOrder.toList) = [99, 117, 116].map Char.ofNat :: R) : P.make = some .cut := by
 obtain ⟨R, hR⟩ := hw
 unfold Program.make
 rw [hR]
 dsimp only
 rw [if_neg (by decide +kernel), if_pos (by rw [show (List.map Char.ofNat [99, 117, 116] == "cut".toList) = true from by decide +kernel]; rfl)]
theorem VQ : Tryz.pinned.checked.prog.initOrder = String.ofList (([104, 97, 114, 110, 101, 115, 115].map Char.ofNat) ++ Char.ofNat 32 :: (([99, 55, 51, 51, 102, 49, 53, 99, 53, 53, 100, 52, 102, 57, 50, 102, 56, 57, 56, 99, 98, 99, 57, 98, 52, 56, 100, 101, 98, 97, 102, 57, 55, 54, 97, 52, 102, 50, 102, 102, 52, 50, 55, 56, 50, 100, 99, 52, 97, 49, 53, 52, 101, 50, 55, 98, 102, 54, 100, 99, 52, 55, 56, 99] : List Nat).map Char.ofNat ++ Char.ofNat 32 :: ([99, 117, 116].map Char.ofNat ++ Char.ofNat 32 :: ([97, 116, 32, 99, 97, 110, 111, 112, 121, 47, 99, 97, 110, 111, 112, 121, 116, 111, 112, 46, 84, 111, 112, 82, 111, 117, 110, 100, 115, 32, 99, 97, 110, 111, 112, 121, 47, 99, 97, 110, 111, 112, 121, 116, 111, 112, 46, 84, 111, 112, 73, 100, 108, 101, 32, 99, 97, 110, 111, 112, 121, 47, 99, 97, 110, 111, 112, 121, 116, 111, 112, 46, 84, 111, 112, 84, 119, 105, 99, 101, 32, 99, 97, 110, 111, 112, 121, 47, 99, 97, 110, 111, 112, 121, 116, 111, 112, 46, 84, 111, 112, 65, 110, 101, 119, 32, 99, 97, 110, 111, 112, 121, 47, 99, 97, 110, 111, 112, 121, 116, 111, 112, 46, 84, 111, 112, 82, 111, 111, 116, 115, 32, 99, 97, 110, 111, 112, 121, 47, 99, 97, 110, 111, 112, 121, 116, 111, 112, 46, 84, 111, 112, 66, 97, 110, 107, 32, 99, 97, 110, 111, 112, 121, 47, 99, 97, 110, 111, 112, 121, 116, 111, 112, 46, 84, 111, 112, 67, 108, 97, 115, 104, 32, 99, 97, 110, 111, 112, 121, 47, 99, 97, 110, 111, 112, 121, 116, 111, 112, 46, 84, 111, 112, 66, 108, 105, 110, 100, 32, 99, 97, 110, 111, 112, 121, 47, 99, 97, 110, 111, 112, 121, 116, 111, 112, 46, 84, 111, 112, 65, 112, 97, 114, 116, 32, 99, 97, 110, 111, 112, 121, 47, 99, 97, 110, 111, 112, 121, 116, 111, 112, 46, 84, 111, 112, 67, 111, 117, 110, 116, 101, 114, 32, 99, 97, 110, 111, 112, 121, 47, 99, 97, 110, 111, 112, 121, 116, 111, 112, 46, 84, 111, 112, 71, 111, 110, 101, 32, 99, 97, 110, 111, 112, 121, 47, 99, 97, 110, 111, 112, 121, 116, 111, 112, 46, 84, 111, 112, 81, 117, 101, 117, 101, 32, 99, 97, 110, 111, 112, 121, 47, 99, 97, 110, 111, 112, 121, 116, 111, 112, 46, 84, 111, 112, 87, 97, 105, 116, 115, 32, 99, 97, 110, 111, 112, 121, 47, 99, 97, 110, 111, 112, 121, 116, 111, 112, 46, 84, 111, 112, 80, 104, 97, 110, 116, 111, 109, 32, 99, 97, 110, 111, 112, 121, 47, 99, 97, 110, 111, 112, 121, 116, 111, 112, 46, 84, 111, 112, 79, 119, 110, 32, 99, 97, 110, 111, 112, 121, 47, 99, 97, 110, 111, 112, 121, 116, 111, 112, 46, 84, 111, 112, 76, 111, 115, 116] : List Nat).map Char.ofNat))) := by
 show Tryz.progTables.initOrder = _
 unfold Tryz.progTables
 dsimp only
 kernel_rfl
theorem vU : ∃ R, behindMainWord (wordsSigns Tryz.pinned.checked.prog.initOrder.toList) = [99, 117, 116].map Char.ofNat :: R := YS VQ (by decide +kernel) (by decide +kernel)
theorem CC : Tryz.pinned.checked.prog.laysLater = false := by kernel_rfl
theorem wM : Tryz.pinned.checked.prog.bearsReflect = false := by kernel_rfl
theorem GE : Tryz.pinned.checked.prog.doorFits [] = true := by kernel_rfl
theorem vM : Tryz.pinned.checked.prog.mayEnter = true := NI vU CC wM GE
theorem sO : Tryz.pinned.checked.prog.liftsFinal = false := GD vU
theorem HK : Tryz.pinned.checked.prog.make = some .cut := Dp vU
theorem nH : laidOutB Tryz.pinned.checked.prog = true := by kernel_rfl
theorem tB : mapsRowed Tryz.pinned.checked.prog = true := by kernel_rfl
theorem CD : (Tryz.pinned.checked.prog.stops == []) = true := by kernel_rfl
theorem tC : (Tryz.pinned.checked.prog.stopKnobs == []) = true := by kernel_rfl
theorem sP : Tryz.pinned.checked.prog.stopsHeard = true := by kernel_rfl

abbrev By := List UInt8
theorem lW : ∀ a b c : By, Op.bytesLess a b = true → Op.bytesLess b c = true → Op.bytesLess a c = true
  | _, _, [], _, h => by cases ‹By› <;> cases h
  | [], _, _ :: _, _, _ => by simp [Op.bytesLess]
  | _ :: _, [], _ :: _, h, _ => by cases h
  | x :: a, y :: b, z :: c, h, k => by
    simp only [Op.bytesLess, Bool.or_eq_true, decide_eq_true_eq, Bool.and_eq_true, beq_iff_eq] at *
    rcases h with h | ⟨rfl, h⟩
    · rcases k with k | ⟨rfl, k⟩
      · left
        have h1 := UInt8.lt_iff_toNat_lt.1 h; have h2 := UInt8.lt_iff_toNat_lt.1 k
        exact UInt8.lt_iff_toNat_lt.2 (by omega)
      · exact .inl h
    · rcases k with k | ⟨rfl, k⟩
      · exact .inl k
      · exact .inr ⟨rfl, lW a b c h k⟩
theorem oE : ∀ a b : By, Op.bytesLess a b = false → Op.bytesLess b a = false → a = b
  | [], [], _, _ => rfl
  | [], _ :: _, h, _ => by simp [Op.bytesLess] at h
  | _ :: _, [], _, h => by simp [Op.bytesLess] at h
  | x :: a, y :: b, h, k => by
    simp only [Op.bytesLess, Bool.or_eq_false_iff, decide_eq_false_iff_not, Bool.and_eq_false_iff, beq_eq_false_iff_ne] at h k
    have hxy : x = y := by
      apply UInt8.toNat_inj.1
      have h1 : ¬ x.toNat < y.toNat := fun q => h.1 (UInt8.lt_iff_toNat_lt.2 q)
      have h2 : ¬ y.toNat < x.toNat := fun q => k.1 (UInt8.lt_iff_toNat_lt.2 q)
      omega
    subst hxy
    rw [oE a b (h.2.resolve_left (fun q => q rfl)) (k.2.resolve_left (fun q => q rfl))]
theorem nJ {a b : By} (h : Op.bytesLess a b = true) : a ≠ b := by rintro rfl; rw [gW] at h; cases h
abbrev Lt (a b : By) : Prop := Op.bytesLess a b = true
def eY (a b : By) : Int := if Op.bytesLess a b then -1 else if a = b then 0 else 1
theorem rL {a b : By} : eY a b < 0 ↔ Lt a b := by
 unfold eY Lt; cases h : Op.bytesLess a b <;> simp; split <;> omega
theorem TI {a b : By} : eY a b = 0 ↔ a = b := by
 unfold eY
 cases h : Op.bytesLess a b with
 | true => simp; exact nJ h
 | false => simp only [Bool.false_eq_true, if_false]; split <;> simp_all
theorem Dq {a b : By} : 0 < eY a b ↔ Lt b a := by
 unfold eY Lt
 cases h : Op.bytesLess a b with
 | true => simp; exact kN a b h
 | false =>
  simp only [Bool.false_eq_true, if_false]
  split
  ·rename_i e; subst e; simp [gW]
  ·rename_i e
   cases k : Op.bytesLess b a with
   | true => simp
   | false => exact absurd (oE a b h k) e
section
variable {β : Type} (f : β → By)
abbrev tD (l : List β) : Prop := l.Pairwise fun p q => Lt (f p) (f q)
def lP (l : List β) (k : By) : Nat := (l.takeWhile fun p => Op.bytesLess (f p) k).length
def zU (l : List β) (k : By) : Bool := l.any fun p => f p == k
theorem kE (l : List β) (k : By) : lP f l k ≤ l.length := by
 unfold lP; exact (List.takeWhile_prefix _).length_le
variable {f}
theorem wN {l : List β} {k : By} {i : Nat} (hi : i < lP f l k) (h : i < l.length) : Lt (f l[i]) k := by
 unfold lP at hi
 have e : (l.takeWhile fun p => Op.bytesLess (f p) k)[i] = l[i] := (List.takeWhile_prefix _).getElem hi
 have hp := List.all_eq_true.1 (List.all_takeWhile (p := fun p => Op.bytesLess (f p) k) (l := l)) _ (List.getElem_mem hi)
 rw [e] at hp
 exact hp
theorem kO (p : β) (l : List β) (k : By) : lP f (p :: l) k = if Op.bytesLess (f p) k then lP f l k + 1 else 0 := by
 unfold lP
 rw [List.takeWhile_cons]
 split <;> simp
theorem wO : ∀ {l : List β} {k : By}, tD f l → ∀ {i : Nat} (_ : lP f l k ≤ i) (h : i < l.length), ¬ Lt (f l[i]) k
  | [], _, _, i, _, h => by simp at h
  | p :: l, k, hr, i, hi, h => by
    rw [kO] at hi
    rw [tD, List.pairwise_cons] at hr
    split at hi
    · rename_i hlt
      cases i with
      | zero => omega
      | succ i => exact wO hr.2 (by omega) (by simpa using h)
    · rename_i hlt
      cases i with
      | zero => simpa using hlt
      | succ i =>
        simp only [List.getElem_cons_succ]
        intro h2
        have := hr.1 (l[i]'(by simpa using h)) (List.getElem_mem _)
        exact hlt (lW _ _ _ this h2)
theorem JL {l : List β} {k : By} {n : Nat} (hn : n ≤ l.length) (h1 : ∀ (i : Nat) (h : i < l.length), i < n → Lt (f l[i]) k) (h2 : ∀ (i : Nat) (h : i < l.length), n ≤ i → ¬ Lt (f l[i]) k) : lP f l k = n := by
 induction l generalizing n with
 | nil => simp at hn; subst hn; rfl
 | cons p l ih =>
  rw [kO]
  cases n with
  | zero =>
   have := h2 0 (by simp) (by omega)
   rw [if_neg (by simpa using this)]
  | succ n =>
   rw [if_pos (show Lt (f p) k from h1 0 (by simp) (by omega))]
   rw [ih (n := n) (by simpa using hn) (fun i h hi => by have := h1 (i + 1) (by simpa using h) (by omega); simpa using this) (fun i h hi => by have := h2 (i + 1) (by simpa using h) (by omega); simpa using this)]
theorem qK {l : List β} {k : By} : zU f l k = true ↔ ∃ p ∈ l, f p = k := by simp [zU]
theorem iN {l : List β} {k : By} (hr : tD f l) : zU f l k = true ↔ ∃ h : lP f l k < l.length, f (l[lP f l k]) = k := by
 rw [qK]
 constructor
 ·rintro ⟨p, hp, hk⟩
  obtain ⟨i, hi, rfl⟩ := List.mem_iff_getElem.1 hp
  have e : lP f l k = i := JL (Nat.le_of_lt hi) (fun j hj hji => by
   rw [← hk]; exact List.pairwise_iff_getElem.1 hr j i hj hi hji) (fun j hj hij => by
   rw [← hk]
   intro h
   rcases Nat.lt_or_eq_of_le hij with h1 | h1
   ·exact absurd (lW _ _ _ h (List.pairwise_iff_getElem.1 hr i j hi hj h1)) (by rw [gW]; simp)
   ·subst h1; rw [Lt, gW] at h; cases h)
  subst e
  exact ⟨hi, hk⟩
 ·rintro ⟨h, hk⟩
  exact ⟨_, List.getElem_mem h, hk⟩
end
section
variable {α : Type}
abbrev fS (l : List (By × α)) : Prop := tD (·.1) l
abbrev aU (l : List (By × α)) (k : By) : Nat := lP (·.1) l k
abbrev fD (l : List (By × α)) (k : By) : Bool := zU (·.1) l k
def gH (l : List (By × α)) (k : By) : Option α := (l.find? fun p => p.1 == k).map (·.2)
def eV (l : List (By × α)) (k : By) (v : α) : List (By × α) := if fD l k then l.set (aU l k) (k, v) else l.take (aU l k) ++ (k, v) :: l.drop (aU l k)
def gP (l : List (By × α)) (k : By) : List (By × α) := if fD l k then l.take (aU l k) ++ l.drop (aU l k + 1) else l
def gR (l : List (By × α)) (a b : By) : List (By × α) := l.filter fun p => !Op.bytesLess p.1 a && !Op.bytesLess b p.1
end
abbrev Pr := By × By
def CE (p : Pr) : Prop := 1 ≤ p.1.length ∧ p.1.length ≤ 16 ∧ p.2.length ≤ 32
structure TreeOk (n : Nat) (l : List Pr) : Prop where
  len : l.length ≤ n
  ok : ∀ p ∈ l, CE p
  rise : fS l
section
variable {α : Type}
def yN (k : By) (v : α) : List (By × α) → List (By × α)
  | [] => [(k, v)]
  | p :: l => if Op.bytesLess p.1 k then p :: yN k v l else if p.1 = k then (k, v) :: l else (k, v) :: p :: l
def yO (k : By) : List (By × α) → List (By × α)
  | [] => []
  | p :: l => if Op.bytesLess p.1 k then p :: yO k l else if p.1 = k then l else p :: l
theorem wP {p : By × α} {l : List (By × α)} {k : By} (h : Lt p.1 k) : fD (p :: l) k = fD l k := by
 have := nJ h
 simp [fD, zU, this]
theorem wQ {p : By × α} {l : List (By × α)} {k : By} (hr : fS (p :: l)) (h : ¬ Lt p.1 k) (hne : p.1 ≠ k) : fD (p :: l) k = false := by
 cases hh : fD (p :: l) k with
 | false => rfl
 | true =>
  obtain ⟨h1, h2⟩ := (iN hr).1 hh
  have h0 : lP (·.1) (p :: l) k = 0 := by rw [kO, if_neg h]
  simp only [h0, List.getElem_cons_zero] at h2
  exact absurd h2 hne
theorem qL (k : By) (v : α) : ∀ {l : List (By × α)}, fS l → eV l k v = yN k v l
  | [], _ => by simp [eV, fD, zU, yN]
  | p :: l, hr => by
    have hr' := (List.pairwise_cons.1 hr).2
    unfold yN
    split
    · rename_i h
      rw [← qL k v hr']
      have hp : aU (p :: l) k = aU l k + 1 := by rw [aU, kO, if_pos h]
      unfold eV
      rw [wP h, hp]
      split <;> simp
    · rename_i h
      have hp : aU (p :: l) k = 0 := by rw [aU, kO, if_neg h]
      split
      · rename_i he
        have : fD (p :: l) k = true := qK.2 ⟨p, by simp, he⟩
        unfold eV
        rw [if_pos this, hp]
        simp
      · rename_i he
        unfold eV
        rw [wQ hr h he, hp]
        simp
theorem qM (k : By) : ∀ {l : List (By × α)}, fS l → gP l k = yO k l
  | [], _ => by simp [gP, fD, zU, yO]
  | p :: l, hr => by
    have hr' := (List.pairwise_cons.1 hr).2
    unfold yO
    split
    · rename_i h
      rw [← qM k hr']
      have hp : aU (p :: l) k = aU l k + 1 := by rw [aU, kO, if_pos h]
      unfold gP
      rw [wP h, hp]
      split <;> simp
    · rename_i h
      have hp : aU (p :: l) k = 0 := by rw [aU, kO, if_neg h]
      split
      · rename_i he
        have : fD (p :: l) k = true := qK.2 ⟨p, by simp, he⟩
        unfold gP
        rw [if_pos this, hp]
        simp
      · rename_i he
        unfold gP
        rw [wQ hr h he]
        simp
theorem tE {k : By} {v : α} {q : By × α} : ∀ {l : List (By × α)}, q ∈ yN k v l → q = (k, v) ∨ q ∈ l
  | [], h => by simp [yN] at h; exact .inl h
  | p :: l, h => by
    unfold yN at h
    split at h
    · rcases List.mem_cons.1 h with rfl | h
      · exact .inr (by simp)
      · rcases tE h with h | h
        · exact .inl h
        · exact .inr (List.mem_cons_of_mem _ h)
    · split at h <;> simp only [List.mem_cons] at h ⊢ <;> rcases h with h | h <;> simp_all
theorem tF {k : By} {q : By × α} : ∀ {l : List (By × α)}, q ∈ yO k l → q ∈ l
  | [], h => by simp [yO] at h
  | p :: l, h => by
    unfold yO at h
    split at h
    · rcases List.mem_cons.1 h with rfl | h
      · simp
      · exact List.mem_cons_of_mem _ (tF h)
    · split at h
      · exact List.mem_cons_of_mem _ h
      · exact h
theorem HM {k : By} {v : α} : ∀ {l : List (By × α)}, fS l → fS (yN k v l)
  | [], _ => by simp [yN, fS, tD]
  | p :: l, hr => by
    obtain ⟨h1, h2⟩ := List.pairwise_cons.1 hr
    unfold yN
    split
    · rename_i h
      refine List.pairwise_cons.2 ⟨fun q hq => ?_, HM h2⟩
      rcases tE hq with rfl | hq
      · exact h
      · exact h1 q hq
    · rename_i h
      split
      · rename_i he
        refine List.pairwise_cons.2 ⟨fun q hq => ?_, h2⟩
        have : Lt p.1 q.1 := h1 q hq
        rw [he] at this
        exact this
      · rename_i he
        have hk : Lt k p.1 := by
          cases hx : Op.bytesLess k p.1 with
          | true => exact hx
          | false => exact absurd (oE _ _ (by simpa using h) hx) he
        refine List.pairwise_cons.2 ⟨fun q hq => ?_, hr⟩
        rcases List.mem_cons.1 hq with rfl | hq
        · exact hk
        · exact lW _ _ _ hk (h1 q hq)
theorem HN {k : By} : ∀ {l : List (By × α)}, fS l → fS (yO k l)
  | [], _ => by simp [yO, fS, tD]
  | p :: l, hr => by
    obtain ⟨h1, h2⟩ := List.pairwise_cons.1 hr
    unfold yO
    split
    · exact List.pairwise_cons.2 ⟨fun q hq => h1 q (tF hq), HN h2⟩
    · split
      · exact h2
      · exact hr
theorem dZ (p : By × α) (l : List (By × α)) (k : By) : gH (p :: l) k = if p.1 = k then some p.2 else gH l k := by
 unfold gH
 rw [List.find?_cons]
 by_cases h : p.1 = k
 ·simp [h]
 ·simp [h, beq_eq_false_iff_ne.2 h]
theorem VR {l : List (By × α)} {k : By} (h : ∀ p ∈ l, p.1 ≠ k) : gH l k = none := by
 unfold gH
 rw [List.find?_eq_none.2 (by simpa using h)]
 rfl
theorem nY {p : By × α} {l : List (By × α)} {k : By} (hr : fS (p :: l)) (h : ¬ Lt p.1 k) : gH l k = none := by
 refine VR fun q hq e => h ?_
 rw [← e]
 exact (List.pairwise_cons.1 hr).1 q hq
theorem HO {k : By} {v : α} (j : By) : ∀ {l : List (By × α)}, fS l → gH (yN k v l) j = if k = j then some v else gH l j
  | [], _ => by simp [yN, dZ]
  | p :: l, hr => by
    have hr' := (List.pairwise_cons.1 hr).2
    unfold yN
    split
    · rename_i h
      rw [dZ, HO j hr', dZ]
      by_cases e : p.1 = j
      · have : k ≠ j := by rintro rfl; exact nJ h e
        simp [e, this]
      · simp [e]
    · split
      · rename_i he
        rw [dZ, dZ, he]
        by_cases e : k = j <;> simp [e]
      · rw [dZ]
theorem HQ {k : By} (j : By) : ∀ {l : List (By × α)}, fS l → gH (yO k l) j = if k = j then none else gH l j
  | [], _ => by simp [yO, gH]
  | p :: l, hr => by
    have hr' := (List.pairwise_cons.1 hr).2
    unfold yO
    split
    · rename_i h
      rw [dZ, HQ j hr', dZ]
      by_cases e : p.1 = j
      · have : k ≠ j := by rintro rfl; exact nJ h e
        simp [e, this]
      · simp [e]
    · rename_i h
      split
      · rename_i he
        rw [dZ, he]
        by_cases e : k = j
        · subst e
          simp [nY hr h]
        · simp [e]
      · rename_i he
        by_cases e : k = j
        · subst e
          rw [if_pos rfl, dZ, if_neg he, nY hr h]
        · simp [e]
theorem HR {l : List (By × α)} (hr : fS l) (k : By) (v : α) (j : By) : gH (eV l k v) j = if k = j then some v else gH l j := by rw [qL k v hr, HO j hr]
theorem HS {l : List (By × α)} (hr : fS l) (k j : By) : gH (gP l k) j = if k = j then none else gH l j := by rw [qM k hr, HQ j hr]
theorem HT {l : List (By × α)} (hr : fS l) (k : By) (v : α) : fS (eV l k v) := by rw [qL k v hr]; exact HM hr
theorem HU {l : List (By × α)} (hr : fS l) (k : By) : fS (gP l k) := by rw [qM k hr]; exact HN hr
theorem HV {l : List (By × α)} {k : By} : fD l k = (gH l k).isSome := by
 rw [Bool.eq_iff_iff, fD, qK, gH]
 simp [List.find?_isSome]
theorem jO (l : List (By × α)) (k : By) (v : α) : (eV l k v).length = if fD l k then l.length else l.length + 1 := by
 unfold eV
 have := kE (·.1) l k
 split
 ·simp
 ·simp only [List.length_append, List.length_take, List.length_cons, List.length_drop, aU]; omega
theorem NJ {l : List (By × α)} (hr : fS l) (k : By) : (gP l k).length = if fD l k then l.length - 1 else l.length := by
 unfold gP
 split
 ·rename_i h
  obtain ⟨h1, _⟩ := (iN hr).1 h
  simp only [List.length_append, List.length_take, List.length_drop, aU] at *; omega
 ·rfl
theorem NK {l : List (By × α)} {k : By} {v : α} (h : gH l k = some v) : (k, v) ∈ l := by
 unfold gH at h
 obtain ⟨p, hp, rfl⟩ := Option.map_eq_some_iff.1 h
 have h1 := List.find?_some hp
 have h2 := List.mem_of_find?_eq_some hp
 have : p.1 = k := by simpa using h1
 rw [← this]; exact h2
theorem CF {l : List (By × α)} (hr : fS l) {p : By × α} (h : p ∈ l) : gH l p.1 = some p.2 := by
 induction l with
 | nil => simp at h
 | cons q l ih =>
  obtain ⟨h1, h2⟩ := List.pairwise_cons.1 hr
  rw [dZ]
  rcases List.mem_cons.1 h with rfl | h
  ·simp
  ·rw [if_neg (nJ (h1 p h)), ih h2 h]
theorem CG : ∀ {l m : List (By × α)}, fS l → fS m → (∀ k, gH l k = gH m k) → l = m
  | [], [], _, _, _ => rfl
  | [], q :: m, _, _, h => by have := h q.1; rw [dZ] at this; simp [gH] at this
  | p :: l, [], _, _, h => by have := h p.1; rw [dZ] at this; simp [gH] at this
  | p :: l, q :: m, hl, hm, h => by
    have e1 := h p.1
    have e2 := h q.1
    have hp : p.1 = q.1 := by
      cases a : Op.bytesLess p.1 q.1 with
      | true =>
        rw [dZ, dZ, if_pos rfl, if_neg (fun e => nJ a e.symm), nY hm (fun k => by have := kN _ _ a; rw [Lt, this] at k; cases k)] at e1
        cases e1
      | false =>
        cases b : Op.bytesLess q.1 p.1 with
        | true =>
          rw [dZ, dZ, if_pos rfl, if_neg (fun e => nJ b e.symm), nY hl (fun k => by have := kN _ _ b; rw [Lt, this] at k; cases k)] at e2
          cases e2
        | false => exact oE _ _ a b
    have hv : p.2 = q.2 := by
      rw [dZ, dZ, if_pos rfl, if_pos hp.symm] at e1
      simpa using e1
    have hpq : p = q := Prod.ext hp hv
    subst hpq
    rw [CG (List.pairwise_cons.1 hl).2 (List.pairwise_cons.1 hm).2 fun k => ?_]
    have e3 := h k
    rw [dZ, dZ] at e3
    by_cases e : p.1 = k
    · subst e
      rw [nY hl (by rw [Lt, gW]; simp), nY hm (by rw [Lt, gW]; simp)]
    · simpa [e] using e3
end
theorem TreeOk.put {n m : Nat} {l : List Pr} {k v : By} (h : TreeOk n l) (hp : CE (k, v)) (hm : (eV l k v).length ≤ m) : TreeOk m (eV l k v) := by
 refine ⟨hm, fun p hp' => ?_, HT h.rise k v⟩
 rw [qL k v h.rise] at hp'
 rcases tE hp' with rfl | h'
 ·exact hp
 ·exact h.ok p h'
theorem TreeOk.del {n : Nat} {l : List Pr} {k : By} (h : TreeOk n l) : TreeOk n (gP l k) := by
 refine ⟨?_, fun p hp' => ?_, HU h.rise k⟩
 ·rw [NJ h.rise]; have := h.len; split <;> omega
 ·rw [qM k h.rise] at hp'; exact h.ok p (tF hp')
theorem TreeOk.mono {n m : Nat} {l : List Pr} (h : TreeOk n l) (hm : n ≤ m) : TreeOk m l := ⟨Nat.le_trans h.len hm, h.ok, h.rise⟩
theorem TreeOk.nil (n : Nat) : TreeOk n [] := ⟨Nat.zero_le _, by simp, by simp [fS, tD]⟩
section
variable {α : Type}
theorem JM {l : List (By × α)} (hr : fS l) (a b : By) : gR l a b = (l.take (if fD l b then aU l b + 1 else aU l b)).drop (aU l a) := by
 have key : ∀ (i : Nat) (h : i < l.length), (i < (if fD l b then aU l b + 1 else aU l b)) ↔ Op.bytesLess b l[i].1 = false := by
  intro i h
  by_cases hh : fD l b = true
  ·rw [if_pos hh]
   obtain ⟨h1, h2⟩ := (iN hr).1 hh
   constructor
   ·intro hi
    rcases Nat.lt_or_eq_of_le (Nat.le_of_lt_succ hi) with h3 | h3
    ·exact kN _ _ (wN (f := (·.1)) h3 h)
    ·subst h3
     rw [show l[lP (·.1) l b].1 = b from h2, gW]
   ·intro hb
    apply Nat.lt_succ_of_le
    rcases Nat.lt_or_ge (aU l b) i with h3 | h3
    ·have : Lt l[lP (·.1) l b].1 l[i].1 := List.pairwise_iff_getElem.1 hr _ _ h1 h h3
     rw [show l[lP (·.1) l b].1 = b from h2] at this
     rw [Lt, hb] at this; cases this
    ·exact h3
  ·rw [if_neg hh]
   constructor
   ·intro hi; exact kN _ _ (wN (f := (·.1)) hi h)
   ·intro hb
    rcases Nat.lt_or_ge i (aU l b) with h3 | h3
    ·exact h3
    ·have h4 := wO hr h3 h
     have := oE _ _ (by simpa using h4) hb
     exact absurd (qK.2 ⟨l[i], List.getElem_mem _, this⟩) hh
 have key2 : ∀ (i : Nat) (h : i < l.length), aU l a ≤ i ↔ Op.bytesLess l[i].1 a = false := by
  intro i h
  constructor
  ·intro hi; have := wO hr hi h; simpa using this
  ·intro hb
   rcases Nat.lt_or_ge i (aU l a) with h3 | h3
   ·have := wN (f := (·.1)) h3 h
    rw [Lt, hb] at this; cases this
   ·exact h3
 have hle : (if fD l b then aU l b + 1 else aU l b) ≤ l.length := by
  split
  ·rename_i hh
   obtain ⟨h1, _⟩ := (iN hr).1 hh
   exact h1
  ·exact kE _ _ _
 generalize (if fD l b then aU l b + 1 else aU l b) = n at *
 generalize aU l a = m at *
 clear hr
 unfold gR
 induction l generalizing n m with
 | nil => simp
 | cons p l ih =>
  rw [List.filter_cons]
  have k1 := key 0 (by simp)
  have k2 := key2 0 (by simp)
  simp only [List.getElem_cons_zero] at k1 k2
  have key' : ∀ (n' : Nat), n = n' + 1 → ∀ (i : Nat) (h : i < l.length), i < n' ↔ Op.bytesLess b l[i].1 = false := by
   rintro n' rfl i h
   have := key (i + 1) (by simpa using h)
   simpa using this
  have key2' : ∀ (i : Nat) (h : i < l.length), m - 1 ≤ i ↔ Op.bytesLess l[i].1 a = false := by
   intro i h
   have := key2 (i + 1) (by simpa using h)
   simp only [List.getElem_cons_succ] at this
   rw [← this]; omega
  cases n with
  | zero =>
   have hz : ∀ (i : Nat) (h : i < l.length), i < 0 ↔ Op.bytesLess b l[i].1 = false := by
    intro i h
    have := key (i + 1) (by simpa using h)
    simp only [List.getElem_cons_succ] at this
    rw [← this]; omega
   have := ih 0 hz (by omega) (m - 1) key2'
   simp only [List.take_zero, List.drop_nil] at this ⊢
   have hb : Op.bytesLess b p.1 = true := by
    cases hx : Op.bytesLess b p.1 with
    | true => rfl
    | false => have := k1.2 hx; omega
   simp only [hb, Bool.not_true, Bool.and_false, Bool.false_eq_true, if_false]
   exact this
  | succ n' =>
   have := ih n' (key' n' rfl) (by simpa using hle) (m - 1) key2'
   have hb := k1.1 (by omega)
   cases m with
   | zero =>
    have ha := k2.1 (by omega)
    simp only [Nat.zero_sub, List.drop_zero] at this
    simp [ha, hb, this]
   | succ m' =>
    have ha : Op.bytesLess p.1 a = true := by
     cases hx : Op.bytesLess p.1 a with
     | true => rfl
     | false => have := k2.2 hx; omega
    simp only [Nat.add_sub_cancel] at this
    simp [ha, this]
end
def at0 (S : List (BitVec 64)) (i : Nat) : BitVec 64 := S.getD i 0
def YT (S : List (BitVec 64)) (x : Nat) : BitVec 64 := at0 S x ^^^ at0 S (x + 5) ^^^ at0 S (x + 10) ^^^ at0 S (x + 15) ^^^ at0 S (x + 20)
def pH (x : BitVec 64) (n : Nat) : BitVec 64 := (x <<< n) ||| (x >>> (64 - n))
def rM (n : Nat) (f : Nat → BitVec 64) : List (BitVec 64) := (List.range n).map f
def Hr (S C : List (BitVec 64)) (i : Nat) : BitVec 64 := at0 S i ^^^ (at0 C ((i % 5 + 4) % 5) ^^^ pH (at0 C ((i % 5 + 1) % 5)) 1)
def thL (S C : List (BitVec 64)) (k : Nat) : List (BitVec 64) := rM 25 fun i => if i < k then Hr S C i else at0 S i
def wR : List Nat := [10, 7, 11, 17, 18, 3, 5, 16, 8, 21, 24, 4, 15, 23, 19, 13, 12, 2, 20, 14, 22, 9, 6, 1]
def Hs : List Nat := [1, 3, 6, 10, 15, 21, 28, 36, 45, 55, 2, 14, 27, 41, 56, 8, 25, 43, 62, 18, 39, 61, 20, 44]
def Dr : List Nat := [1, 32898, 9223372036854808714, 9223372039002292224, 32907, 2147483649, 9223372039002292353, 9223372036854808585, 138, 136, 2147516425, 2147483658, 2147516555, 9223372036854775947, 9223372036854808713, 9223372036854808579, 9223372036854808578, 9223372036854775936, 32778, 9223372039002259466, 9223372039002292353, 9223372036854808704, 2147483649, 9223372039002292232]
def lQ (i : Nat) : Nat := wR.getD i 0
def mZ (i : Nat) : Nat := Hs.getD i 0
def yP (i : Nat) : BitVec 64 := BitVec.ofNat 64 (Dr.getD i 0)
def rN (S : List (BitVec 64)) : Nat → List (BitVec 64) × BitVec 64
  | 0 => (S, at0 S 1)
  | k + 1 => let p := rN S k; (p.1.set (lQ k) (pH p.2 (mZ k)), at0 p.1 (lQ k))
def NL (S : List (BitVec 64)) (i : Nat) : BitVec 64 := at0 S i ^^^ (~~~ (at0 S (i / 5 * 5 + (i % 5 + 1) % 5)) &&& at0 S (i / 5 * 5 + (i % 5 + 2) % 5))
def Ds (S : List (BitVec 64)) : List (BitVec 64) := rM 25 (NL S)
def HW (S : List (BitVec 64)) (r : Nat) : List (BitVec 64) :=
  let a := thL S ((List.range 5).map (YT S)) 25
  let b := (rN a 24).1
  let c := Ds b
  c.set 0 (at0 c 0 ^^^ yP r)
def nA (S : List (BitVec 64)) (n : Nat) : List (BitVec 64) := (List.range n).foldl HW S
def GF (b : List UInt8) : List UInt8 :=
  let p := b ++ [6]
  let q := p ++ List.replicate ((136 - p.length % 136) % 136) 0
  q.set (q.length - 1) (q.getD (q.length - 1) 0 ||| 128)
def sV (S : List (BitVec 64)) (p : List UInt8) (n : Nat) : List (BitVec 64) :=
  (List.range n).foldl (fun S i => S.set (i / 8) (at0 S (i / 8) ^^^ (BitVec.ofNat 64 (p.getD i 0).toNat <<< (i % 8 * 8)))) S
def nK (S : List (BitVec 64)) : List UInt8 → Nat → List (BitVec 64)
  | _, 0 => S
  | p, n + 1 => nK (nA (sV S p 136) 24) (p.drop 136) n
def NM (S : List (BitVec 64)) : List UInt8 := (List.range 32).map fun i => UInt8.ofNat ((at0 S (i / 8) >>> (i % 8 * 8)).toNat % 256)
def vI (b : List UInt8) : List UInt8 := NM (nK (List.replicate 25 0) (GF b) ((GF b).length / 136))
theorem CH (n : Nat) (f : Nat → BitVec 64) : (rM n f).length = n := by simp [rM]
theorem tG (b : List UInt8) : (vI b).length = 32 := by simp [vI, NM]
def lD (p : By) : By := UInt8.ofNat (p.length / 256) :: UInt8.ofNat (p.length % 256) :: p
def yQ (k : UInt8) (ps : List By) : By := k :: ps.flatMap lD
def yR (k : UInt8) (ps : List By) : By := vI (yQ k ps)
theorem rO (k : UInt8) (ps : List By) : (yR k ps).length = 32 := tG _

abbrev aO := List (By × List Pr)
def CI (n : By) : Prop := 1 ≤ n.length ∧ n.length ≤ 8
structure ForestOk (m : Nat) (f : aO) : Prop where
  len : f.length ≤ 8
  name : ∀ t ∈ f, CI t.1
  some : ∀ t ∈ f, t.2 ≠ []
  tree : ∀ t ∈ f, TreeOk m t.2
  rise : fS f
def bG (f : aO) (n : By) : List Pr := (gH f n).getD []
def gQ (f : aO) (n k : By) : Option By := gH (bG f n) k
structure Wr where
  name : By
  key : By
  gone : Bool
  value : By
structure WrOk (w : Wr) : Prop where
  name : CI w.name
  key1 : 1 ≤ w.key.length
  key2 : w.key.length ≤ 16
  value : w.value.length ≤ 32
  gone : w.gone = true → w.value = []
def iO (w : Wr) (old : List Pr) : List Pr := if w.gone then gP old w.key else eV old w.key w.value
def eR (f : aO) (w : Wr) : Option aO :=
  let oD := iO w (bG f w.name)
  if w.gone = false ∧ 60 < oD.length then none
  else if oD = [] then some (gP f w.name)
  else if 8 < (eV f w.name oD).length then none
  else some (eV f w.name oD)
def fW (f : aO) : List Wr → Option aO
  | [] => some f
  | w :: ws => match eR f w with
    | some g => fW g ws
    | none => none
theorem kF {m : Nat} {f : aO} (h : ForestOk m f) (n : By) : TreeOk m (bG f n) := by
 unfold bG
 cases hg : gH f n with
 | none => exact TreeOk.nil m
 | some t => exact h.tree _ (NK hg)
theorem VS {f : aO} (hr : fS f) (n : By) (t : List Pr) (j : By) : bG (eV f n t) j = if n = j then t else bG f j := by
 unfold bG
 rw [HR hr]
 split <;> rfl
theorem VT {f : aO} (hr : fS f) (n j : By) : bG (gP f n) j = if n = j then [] else bG f j := by
 unfold bG
 rw [HS hr]
 split <;> rfl
theorem VU {old : List Pr} (hr : fS old) (w : Wr) (k : By) : gH (iO w old) k = if w.key = k then (if w.gone then none else some w.value) else gH old k := by
 unfold iO
 cases w.gone with
 | true => simp only [if_true]; exact HS hr _ _
 | false => simp only [Bool.false_eq_true, if_false]; exact HR hr _ _ _
theorem NN {m : Nat} {old : List Pr} (h : TreeOk m old) {w : Wr} (hw : WrOk w) : TreeOk (m + 1) (iO w old) := by
 unfold iO
 split
 ·exact h.del.mono (by omega)
 ·refine h.put ⟨hw.key1, hw.key2, hw.value⟩ ?_
  rw [jO]
  have := h.len
  split <;> omega
theorem tH {f g : aO} {w : Wr} (h : eR f w = some g) :
    (iO w (bG f w.name) = [] ∧ g = gP f w.name) ∨ (iO w (bG f w.name) ≠ [] ∧ g = eV f w.name (iO w (bG f w.name)) ∧ g.length ≤ 8) := by
 unfold eR at h
 dsimp only at h
 by_cases h1 : w.gone = false ∧ 60 < (iO w (bG f w.name)).length
 ·rw [if_pos h1] at h; cases h
 ·rw [if_neg h1] at h
  by_cases h2 : iO w (bG f w.name) = []
  ·rw [if_pos h2] at h; left; exact ⟨h2, by injection h with h; exact h.symm⟩
  ·rw [if_neg h2] at h
   by_cases h3 : 8 < (eV f w.name (iO w (bG f w.name))).length
   ·rw [if_pos h3] at h; cases h
   ·rw [if_neg h3] at h
    right
    injection h with h
    subst h
    exact ⟨h2, rfl, by omega⟩
theorem tI {m : Nat} {f : aO} (hf : ForestOk m f) {w : Wr} (hw : WrOk w) (hm : m < 60) (h : eR f w = none) : f.length = 8 ∧ fD f w.name = false ∧ w.gone = false := by
 unfold eR at h
 dsimp only at h
 have hl := (NN (kF hf w.name) hw).len
 rw [if_neg (by omega)] at h
 by_cases h2 : iO w (bG f w.name) = []
 ·rw [if_pos h2] at h; cases h
 ·rw [if_neg h2] at h
  by_cases h3 : 8 < (eV f w.name (iO w (bG f w.name))).length
  ·rw [jO] at h3
   have := hf.len
   cases hh : fD f w.name with
   | true => rw [hh] at h3; simp at h3; omega
   | false =>
    rw [hh] at h3
    simp at h3
    refine ⟨by omega, rfl, ?_⟩
    cases hg : w.gone with
    | false => rfl
    | true =>
     exfalso
     apply h2
     have e : gH f w.name = none := by
      rw [HV] at hh
      cases hx : gH f w.name with
      | none => rfl
      | some _ => rw [hx] at hh; cases hh
     unfold iO bG
     rw [hg, e]
     rfl
  ·rw [if_neg h3] at h; cases h
theorem yS {m : Nat} {f g : aO} (hf : ForestOk m f) {w : Wr} (hw : WrOk w) (h : eR f w = some g) : ForestOk (m + 1) g := by
 rcases tH h with ⟨h1, rfl⟩ | ⟨h1, rfl, h2⟩
 ·have hmem : ∀ t ∈ gP f w.name, t ∈ f := fun t ht => by rw [qM _ hf.rise] at ht; exact tF ht
  refine ⟨?_, fun t ht => hf.name t (hmem t ht), fun t ht => hf.some t (hmem t ht), fun t ht => (hf.tree t (hmem t ht)).mono (by omega), HU hf.rise _⟩
  rw [NJ hf.rise]
  have := hf.len
  split <;> omega
 ·have hmem : ∀ t ∈ eV f w.name (iO w (bG f w.name)), t = (w.name, iO w (bG f w.name)) ∨ t ∈ f := fun t ht => by rw [qL _ _ hf.rise] at ht; exact tE ht
  refine ⟨h2, fun t ht => ?_, fun t ht => ?_, fun t ht => ?_, HT hf.rise _ _⟩
  ·rcases hmem t ht with rfl | ht
   ·exact hw.name
   ·exact hf.name t ht
  ·rcases hmem t ht with rfl | ht
   ·exact h1
   ·exact hf.some t ht
  ·rcases hmem t ht with rfl | ht
   ·exact NN (kF hf _) hw
   ·exact (hf.tree t ht).mono (by omega)
theorem wS {f g : aO} (hr : fS f) {w : Wr} (h : eR f w = some g) (n : By) : bG g n = if w.name = n then iO w (bG f w.name) else bG f n := by
 rcases tH h with ⟨h1, rfl⟩ | ⟨h1, rfl, h2⟩
 ·rw [VT hr, h1]
 ·rw [VS hr]
theorem NO {m : Nat} {f g : aO} (hf : ForestOk m f) {w : Wr} (h : eR f w = some g) (n k : By) :
    gQ g n k = if w.name = n ∧ w.key = k then (if w.gone then none else some w.value) else gQ f n k := by
 unfold gQ
 rw [wS hf.rise h]
 by_cases e : w.name = n
 ·subst e
  rw [if_pos rfl, VU (kF hf _).rise]
  by_cases e2 : w.key = k <;> simp [e2]
 ·simp [e]
theorem CJ {m : Nat} {f : aO} (hf : ForestOk m f) (n : By) : gH f n = if bG f n = [] then none else some (bG f n) := by
 unfold bG
 cases h : gH f n with
 | none => rfl
 | some t => simp [hf.some _ (NK h)]
theorem QY {m n : Nat} {f g : aO} (hf : ForestOk m f) (hg : ForestOk n g) (h : ∀ n k, gQ f n k = gQ g n k) : f = g := by
 refine CG hf.rise hg.rise fun n => ?_
 have : bG f n = bG g n := CG (kF hf n).rise (kF hg n).rise (h n)
 rw [CJ hf, CJ hg, this]
theorem ForestOk.nil (m : Nat) : ForestOk m [] := ⟨by simp, by simp, by simp, by simp, by simp [fS, tD]⟩
theorem ForestOk.mono {m n : Nat} {f : aO} (h : ForestOk m f) (hm : m ≤ n) : ForestOk n f := ⟨h.len, h.name, h.some, fun t ht => (h.tree t ht).mono hm, h.rise⟩

section
variable {α : Type}
def JN (l : List (By × α)) (b : By) : Nat := if fD l b then aU l b + 1 else aU l b
theorem TJ {l : List (By × α)} (hr : fS l) (b : By) : JN l b ≤ l.length := by
 unfold JN
 split
 ·rename_i h
  obtain ⟨h1, _⟩ := (iN hr).1 h
  exact h1
 ·exact kE _ _ _
theorem QZ {l : List (By × α)} (hr : fS l) (a b : By) : gR l a b = (l.take (JN l b)).drop (aU l a) := JM hr a b
end

structure Rd where
  name : By
  key : By
  wide : Bool
  last : By
deriving DecidableEq
structure RdOk (r : Rd) : Prop where
  name : CI r.name
  key : 1 ≤ r.key.length ∧ r.key.length ≤ 16
  last : if r.wide then 1 ≤ r.last.length ∧ r.last.length ≤ 16 else r.last = []
structure Tx where
  start : Int
  reads : List Rd
  writes : List Wr
def dA (a b : Wr) : Bool := a.name == b.name && a.key == b.key
theorem vV {a b : Wr} : dA a b = true ↔ a.name = b.name ∧ a.key = b.key := by simp [dA]
structure TxOk (t : Tx) : Prop where
  start : 0 ≤ t.start ∧ t.start ≤ 1048576
  nr : t.reads.length ≤ 20
  nw : t.writes.length ≤ 10
  reads : ∀ r ∈ t.reads, RdOk r
  rdiff : t.reads.Pairwise (· ≠ ·)
  writes : ∀ w ∈ t.writes, WrOk w
  wdiff : t.writes.Pairwise fun a b => dA a b = false
def jB (t : Tx) (r : Rd) : Option Tx := if r ∈ t.reads then some t else if t.reads.length = 20 then none else some { t with reads := t.reads ++ [r] }
def AL (ws : List Wr) (w : Wr) : Option Nat := ws.findIdx? fun x => dA x w
def gS (t : Tx) (w : Wr) : Option Tx := match AL t.writes w with
  | some i => some { t with writes := t.writes.set i w }
  | none => if t.writes.length = 10 then none else some { t with writes := t.writes ++ [w] }
theorem YU {t u : Tx} (h : TxOk t) {r : Rd} (hr : RdOk r) (e : jB t r = some u) : TxOk u := by
 unfold jB at e
 split at e
 ·cases e; exact h
 ·rename_i hn
  split at e
  ·cases e
  ·cases e
   have := h.nr
   refine ⟨h.start, by simp; omega, h.nw, fun x hx => ?_, ?_, h.writes, h.wdiff⟩
   ·rcases List.mem_append.1 hx with hx | hx
    ·exact h.reads x hx
    ·rw [List.mem_singleton.1 hx]; exact hr
   ·refine List.pairwise_append.2 ⟨h.rdiff, by simp, fun a ha b hb => ?_⟩
    rw [List.mem_singleton.1 hb]
    rintro rfl; exact hn ha
theorem VV {ws : List Wr} {w : Wr} {i : Nat} (h : AL ws w = some i) : ∃ hi : i < ws.length, dA ws[i] w = true := by
 unfold AL at h
 obtain ⟨h1, h2, _⟩ := List.findIdx?_eq_some_iff_getElem.1 h
 exact ⟨h1, h2⟩
theorem VW {ws : List Wr} {w : Wr} (h : AL ws w = none) : ∀ x ∈ ws, dA x w = false := by
 unfold AL at h
 simpa using List.findIdx?_eq_none_iff.1 h
theorem wT {a b c : Wr} (h : dA a b = true) : dA a c = dA b c := by
 obtain ⟨h1, h2⟩ := vV.1 h
 unfold dA; rw [h1, h2]
theorem zV (a b : Wr) : dA a b = dA b a := by
 rw [Bool.eq_iff_iff, vV, vV]; exact ⟨fun h => ⟨h.1.symm, h.2.symm⟩, fun h => ⟨h.1.symm, h.2.symm⟩⟩
theorem YV {ws : List Wr} {w : Wr} {i : Nat} (hi : i < ws.length) (hs : dA ws[i] w = true) (h : ws.Pairwise fun a b => dA a b = false) : (ws.set i w).Pairwise fun a b => dA a b = false := by
 rw [List.pairwise_iff_getElem] at h ⊢
 intro a b ha hb hab
 simp only [List.length_set] at ha hb
 have h0 := h a b ha hb hab
 rw [List.getElem_set, List.getElem_set]
 split
 ·rename_i e; subst e
  rw [if_neg (by omega), ← wT hs]; exact h0
 ·split
  ·rename_i e; subst e
   rw [zV, ← wT hs, zV]; exact h0
  ·exact h0
theorem VX {t u : Tx} (h : TxOk t) {w : Wr} (hw : WrOk w) (e : gS t w = some u) : TxOk u := by
 unfold gS at e
 split at e
 ·rename_i i hi
  cases e
  obtain ⟨h1, h2⟩ := VV hi
  refine ⟨h.start, h.nr, by simpa using h.nw, h.reads, h.rdiff, fun x hx => ?_, YV h1 h2 h.wdiff⟩
  rcases List.mem_or_eq_of_mem_set hx with hx | rfl
  ·exact h.writes x hx
  ·exact hw
 ·rename_i hi
  split at e
  ·cases e
  ·cases e
   have := h.nw
   refine ⟨h.start, h.nr, by simp; omega, h.reads, h.rdiff, fun x hx => ?_, ?_⟩
   ·rcases List.mem_append.1 hx with hx | hx
    ·exact h.writes x hx
    ·rw [List.mem_singleton.1 hx]; exact hw
   ·refine List.pairwise_append.2 ⟨h.wdiff, by simp, fun a ha b hb => ?_⟩
    rw [List.mem_singleton.1 hb]
    exact VW hi a ha
theorem RA {t u : Tx} {w : Wr} (e : gS t w = some u) : u.writes.length ≤ t.writes.length + 1 ∧ u.reads = t.reads ∧ u.start = t.start ∧ t.writes.length ≤ u.writes.length := by
 unfold gS at e
 split at e
 ·cases e; simp
 ·split at e
  ·cases e
  ·cases e; simp
theorem uO {t u : Tx} {r : Rd} (e : jB t r = some u) : u.reads.length ≤ t.reads.length + 1 ∧ u.writes = t.writes ∧ u.start = t.start := by
 unfold jB at e
 split at e
 ·cases e; simp
 ·split at e
  ·cases e
  ·cases e; simp
def Ht (ws : List Wr) (n k : By) : Option Wr := ws.find? fun w => w.name == n && w.key == k
def cM (f : aO) (t : Tx) (n k : By) : Option By × Bool := match Ht t.writes n k with
  | some w => (if w.gone then none else some w.value, true)
  | none => (gQ f n k, false)
def inR (n a b : By) (w : Wr) : Bool := w.name == n && !Op.bytesLess w.key a && !Op.bytesLess b w.key
def qN (n a b : By) (l : List Pr) (w : Wr) : Option (List Pr) := if inR n a b w then (if w.gone = false ∧ 60 < (iO w l).length then none else some (iO w l)) else some l
def iP (n a b : By) (l : List Pr) : List Wr → Option (List Pr)
  | [] => some l
  | w :: ws => match qN n a b l w with
    | some m => iP n a b m ws
    | none => none
def NP (f : aO) (t : Tx) (n a b : By) : Option (List Pr) := iP n a b (gR (bG f n) a b) t.writes
theorem NQ {α : Type} {l : List (By × α)} (hr : fS l) (a b : By) : fS (gR l a b) := List.Pairwise.filter _ hr
theorem TreeOk.range {n : Nat} {l : List Pr} (h : TreeOk n l) (a b : By) : TreeOk n (gR l a b) :=
  ⟨Nat.le_trans (List.length_filter_le _ _) h.len, fun p hp => h.ok p (List.mem_filter.1 hp).1, NQ h.rise a b⟩
def eL (r : Rd) (w : Wr) : Bool := r.name == w.name && (if r.wide then !Op.bytesLess w.key r.key && !Op.bytesLess r.last w.key else r.key == w.key)
end Go.Proofs.YtilgpdpooildcaaGreatDoor
