/- Rules, plain laws and walks: A B M1 R G B2 J P1 D0 P2 P3 P4 P5 P6 P7 P9 S1 FW -/
import Derived.Test.YtajmjolgphadoaaDoorRows
import Derived.WalkKit
import Derived.WalkSpells
import Derived.WalkLawsBesides
import Derived.Deep.QuietTactic
import Derived.BigQuiet
import Derived.ProofKit
import Derived.OpenShut
import Derived.ShutString
import Derived.ChangeOld
import Derived.Deep.Slices
import Derived.StillTail
import Derived.JoinedOf
import Derived.Deep.AppendLies
import Derived.Deep.MidRow
namespace Go.Proofs.YtajmjolgphadoaaDoor
open Go.RowKit

/-- A part of the heap that no more changes. -/
abbrev Fz := Nat → Option Obj
def Sat (w : World) (F : Fz) : Prop := ∀ b o, F b = some o → w.heap[b]? = some o
def cellF (F : Fz) (b off : Nat) : Option Value :=
  match F b with
  | some (.cells c _ _) => c[off]?
  | _ => none
theorem Sat.lt {w : World} {F : Fz} (h : Sat w F) {b : Nat} {o : Obj} (hb : F b = some o) : b < w.heap.size :=
  (Array.getElem?_eq_some_iff.1 (h b o hb)).1
theorem Sat.out {w : World} {F : Fz} (h : Sat w F) {b : Nat} (hb : w.heap.size ≤ b) : F b = none := by
  cases hc : F b with
  | none => rfl
  | some o => have := h.lt hc; omega
theorem Sat.cell {w : World} {F : Fz} (h : Sat w F) {b o : Nat} {v : Value} (hc : cellF F b o = some v) : w.cell? ⟨b, o, none⟩ = some v := by
  unfold cellF at hc
  split at hc
  · rename_i c t fr hb
    simp [World.cell?, h b _ hb, hc]
  · cases hc
theorem Sat.below {w w' : World} {F : Fz} (h : Sat w F) (hb : Below w.heap.size w w') : Sat w' F := fun b o hf => by
  rw [hb.block b (h.lt hf)]; exact h b o hf
theorem Sat.alloc {w : World} {F : Fz} (h : Sat w F) (o : Obj) : Sat (w.alloc o) F := fun b x hf => by
  rw [Below.heap_alloc w o b (h.lt hf)]; exact h b x hf
theorem Sat.drew {w : World} {F : Fz} (h : Sat w F) : Sat w.drew F := h
theorem Sat.setCell {w : World} {F : Fz} (h : Sat w F) {a : Addr} (ha : F a.block = none) (u : Value) : Sat (w.setCell a u) F := fun b x hf => by
  rw [Below.heap_setCell w a u b (fun e => by rw [e, ha] at hf; cases hf)]; exact h b x hf
theorem Sat.grown {w w' : World} {F : Fz} (h : Sat w F) {row : Option Nat} (hg : w.grownBy w' row) (hr : ∀ k, row = some k → F k = none) : Sat w' F := fun b x hf => by
  rw [hg.block b (h.lt hf) (fun e => by rw [hr b e.symm] at hf; cases hf)]; exact h b x hf
/-- All of the heap as it stands. -/
def whole (w : World) : Fz := fun b => w.heap[b]?
theorem Sat.whole (w : World) : Sat w (whole w) := fun _ _ h => h
/-- One more block that no more changes. -/
def addF (F : Fz) (w : World) (g : Nat) : Fz := fun b => match F b with | some o => some o | none => if b = g then w.heap[b]? else none
theorem Sat.addF {w : World} {F : Fz} (h : Sat w F) (g : Nat) : Sat w (addF F w g) := fun b o hb => by
  unfold Proofs.YtajmjolgphadoaaDoor.addF at hb
  split at hb
  · rename_i x hx; cases hb; exact h b _ hx
  · split at hb
    · exact hb
    · cases hb
theorem addF_le (F : Fz) (w : World) (g b : Nat) (o : Obj) (h : F b = some o) : addF F w g b = some o := by simp [addF, h]
theorem addF_old {F : Fz} {w : World} {g b : Nat} (h : b ≠ g) : addF F w g b = F b := by
  unfold addF
  cases F b <;> simp [h]

/-- What a call leaves: what lay below is as it was, and so is what no more changes; there may be more of it. -/
structure Gr (w : World) (F : Fz) (w' : World) (F' : Fz) : Prop where
  below : Below w.heap.size w w'
  old : ∀ b, b < w.heap.size → F' b = F b
  sat : Sat w' F'
theorem Gr.le {w w' : World} {F F' : Fz} (h : Gr w F w' F') (hs : Sat w F) : ∀ b o, F b = some o → F' b = some o := fun b o hb => by
  rw [h.old b (hs.lt hb)]; exact hb
theorem Gr.refl {w : World} {F : Fz} (hs : Sat w F) : Gr w F w F := ⟨Below.refl _ _, fun _ _ => rfl, hs⟩
theorem Gr.trans {w w1 w2 : World} {F F1 F2 : Fz} (h : Gr w F w1 F1) (k : Gr w1 F1 w2 F2) : Gr w F w2 F2 :=
  ⟨h.below.trans (k.below.mono h.below.size), fun b hb => (k.old b (Nat.lt_of_lt_of_le hb h.below.size)).trans (h.old b hb), k.sat⟩
theorem Gr.out {w w' : World} {F F' : Fz} (h : Gr w F w' F') {g : Nat} (hg : g < w.heap.size) (hn : F g = none) : F' g = none := by rw [h.old g hg]; exact hn
theorem Gr.of_below {w w' : World} {F : Fz} (hs : Sat w F) (h : Below w.heap.size w w') : Gr w F w' F := ⟨h, fun _ _ => rfl, hs.below h⟩
/-- A new block that the call made is done with. -/
theorem Gr.add {w w' : World} {F F' : Fz} (h : Gr w F w' F') {g : Nat} (hg : w.heap.size ≤ g) : Gr w F w' (addF F' w' g) :=
  ⟨h.below, fun b hb => (addF_old (by omega)).trans (h.old b hb), h.sat.addF g⟩
theorem Gr.set {w w1 : World} {F F1 : Fz} (h : Gr w F w1 F1) {a : Addr} (ha : w.heap.size ≤ a.block) (hn : F1 a.block = none) (u : Value) : Gr w F (w1.setCell a u) F1 :=
  ⟨h.below.setCell ha u, h.old, h.sat.setCell hn u⟩
theorem Gr.new {w w1 : World} {F F1 : Fz} (h : Gr w F w1 F1) (o : Obj) : Gr w F (w1.alloc o) F1 :=
  ⟨h.below.alloc h.below.size o, h.old, h.sat.alloc o⟩
theorem Gr.drew {w w1 : World} {F F1 : Fz} (h : Gr w F w1 F1) : Gr w F w1.drew F1 := ⟨h.below.drew, h.old, h.sat⟩
theorem heap_new_at (X : World) (o : Obj) {n : Nat} (h : n = X.heap.size) : (X.alloc o).heap[n]? = some o := by subst h; exact heap_alloc_new X o
theorem heap_set_at {w : World} {n : Nat} {c : Array Value} {T : TypeId} {fr : Nat × Nat} (h : w.heap[n]? = some (.cells c T fr)) (j : Nat) (u : Value) : (w.setCell ⟨n, j, none⟩ u).heap[n]? = some (.cells (c.setIfInBounds j u) T fr) := by
  simp [World.setCell, Array.getElem?_modify, h]
theorem heap_set_past {w : World} {n : Nat} {p : Obj} (h : w.heap[n]? = some p) {a : Addr} (ha : a.block ≠ n) (u : Value) : (w.setCell a u).heap[n]? = some p := by
  rw [Below.heap_setCell w a u n (fun e => ha e.symm)]; exact h
theorem heap_kept {w w' : World} (hb : Below w.heap.size w w') {n : Nat} {p : Obj} (h : w.heap[n]? = some p) : w'.heap[n]? = some p := by
  rw [hb.block n (Array.getElem?_eq_some_iff.1 h).1]; exact h
/-- Le: more and more no more changes. -/
def Le (F F' : Fz) : Prop := ∀ b o, F b = some o → F' b = some o
theorem Le.refl (F : Fz) : Le F F := fun _ _ h => h
theorem Le.trans {F G H : Fz} (h : Le F G) (k : Le G H) : Le F H := fun b o hb => k b o (h b o hb)
theorem Le.cell {F F' : Fz} (h : Le F F') {b o : Nat} {v : Value} (hc : cellF F b o = some v) : cellF F' b o = some v := by
  unfold cellF at *
  cases hb : F b with
  | none => simp [hb] at hc
  | some x => rw [h b x hb]; rw [hb] at hc; exact hc
theorem Sat.le {w : World} {F F' : Fz} (h : Sat w F') (hl : Le F F') : Sat w F := fun b o hb => h b o (hl b o hb)

/-- A slice's value: n elements, whose cells are cs. -/
def Rw (F : Fz) (v : Value) (n : Nat) (cs : List Value) : Prop :=
  ∃ a c, v = .slice a n c ∧ n ≤ c ∧ c ≤ maxLen ∧ (a = none → n = 0 ∧ c = 0) ∧
    (cs = [] ∨ ∃ b o, a = some ⟨b, o, none⟩ ∧ ∀ j u, cs[j]? = some u → cellF F b (o + j) = some u)
theorem Rw.mono {F F' : Fz} {v : Value} {n : Nat} {cs : List Value} (h : Rw F v n cs) (hl : Le F F') : Rw F' v n cs := by
  obtain ⟨a, c, h1, h2, h3, h4, h5⟩ := h
  refine ⟨a, c, h1, h2, h3, h4, h5.imp id fun ⟨b, o, h6, h7⟩ => ⟨b, o, h6, fun j u hu => hl.cell (h7 j u hu)⟩⟩
theorem Rw.nil (F : Fz) : Rw F (.slice none 0 0) 0 [] := ⟨none, 0, rfl, Nat.le_refl _, Nat.zero_le _, fun _ => ⟨rfl, rfl⟩, .inl rfl⟩
theorem Rw.empty (F : Fz) (a : Addr) (c : Nat) (hc : c ≤ maxLen) : Rw F (.slice (some a) 0 c) 0 [] := ⟨some a, c, rfl, Nat.zero_le _, hc, (fun h => nomatch h), .inl rfl⟩
theorem Rw.shape {F : Fz} {v : Value} {n : Nat} {cs : List Value} (h : Rw F v n cs) : ∃ a c, v = .slice a n c ∧ n ≤ c ∧ c ≤ maxLen := by
  obtain ⟨a, c, h1, h2, h3, _⟩ := h
  exact ⟨a, c, h1, h2, h3⟩
theorem Rw.addr {F : Fz} {a : Option Addr} {m n c : Nat} {cs : List Value} (h : Rw F (.slice a m c) n cs) (hn : cs ≠ []) :
    ∃ b o, a = some ⟨b, o, none⟩ ∧ ∀ j u, cs[j]? = some u → cellF F b (o + j) = some u := by
  obtain ⟨a', c', h1, _, _, _, h5⟩ := h
  cases h1
  exact h5.resolve_left hn
theorem Rw.of_cells {F : Fz} {b o n c : Nat} {cs : List Value} (h1 : n ≤ c) (h2 : c ≤ maxLen) (h : ∀ j u, cs[j]? = some u → cellF F b (o + j) = some u) : Rw F (.slice (some ⟨b, o, none⟩) n c) n cs :=
  ⟨_, c, rfl, h1, h2, (fun h => nomatch h), .inr ⟨b, o, rfl, h⟩⟩
/-- A row that the call owns is done with. -/
theorem Rw.of_owns {w : World} {F : Fz} {base e size : Nat} {v : Value} {n : Nat} {xs : List Value} (h : w.ownsRow base e size v n xs) (hs : Sat w F) :
    ∃ g, Rw (addF F w g) v n xs ∧ (v = .slice none 0 0 ∨ base ≤ g) := by
  rcases h with ⟨hl, ⟨rfl, rfl⟩ | ⟨g, cap, cur, rfl, hb, hg, h1, h2, h3, h4⟩⟩
  · have : xs = [] := List.eq_nil_of_length_eq_zero (by simpa using hl)
    subst this
    exact ⟨w.heap.size, Rw.nil _, .inl rfl⟩
  · refine ⟨g, Rw.of_cells h1 h2 fun j u hu => ?_, .inr hb⟩
    have hb' : addF F w g g = some (.cells cur e (0, 0)) := by
      unfold addF
      cases hf : F g with
      | none => simp [hg]
      | some o => have := hs g o hf; rw [hg] at this; simp at this; simp [← this]
    rw [← h4, List.getElem?_take] at hu
    split at hu
    · unfold cellF; rw [hb', Nat.zero_add]; simpa using hu
    · cases hu
theorem Rw.takeN {F : Fz} {a : Option Addr} {n c k : Nat} {cs : List Value} (h : Rw F (.slice a n c) n cs) (hk : k ≤ n) (size : Nat) : Rw F (.slice a k c) k (cs.take (k * size)) := by
  obtain ⟨a', c', h1, h2, h3, h4, h5⟩ := h
  cases h1
  refine ⟨a, c, rfl, by omega, h3, fun h => ⟨by have := h4 h; omega, (h4 h).2⟩, ?_⟩
  rcases h5 with rfl | ⟨b, o, h6, h7⟩
  · exact .inl (by simp)
  · refine .inr ⟨b, o, h6, fun j u hu => h7 j u ?_⟩
    rw [List.getElem?_take] at hu
    split at hu
    · exact hu
    · cases hu
/-- Bytes. -/
def bv (b : UInt8) : Value := .int .u8 (b.toNat : Int)
def Bs (F : Fz) (v : Value) (l : List UInt8) : Prop := Rw F v l.length (l.map bv)
theorem Bs.mono {F F' : Fz} {v : Value} {l : List UInt8} (h : Bs F v l) (hl : Le F F') : Bs F' v l := Rw.mono h hl
theorem Bs.nil (F : Fz) : Bs F (.slice none 0 0) [] := Rw.nil F
theorem Bs.shape {F : Fz} {v : Value} {l : List UInt8} (h : Bs F v l) : ∃ a c, v = .slice a l.length c ∧ l.length ≤ c ∧ c ≤ maxLen := Rw.shape h
theorem Bs.addr {F : Fz} {a : Option Addr} {m c : Nat} {l : List UInt8} (h : Bs F (.slice a m c) l) (hn : 0 < m) :
    ∃ b o, a = some ⟨b, o, none⟩ ∧ ∀ j (hj : j < l.length), cellF F b (o + j) = some (.int .u8 (l[j].toNat : Int)) := by
  have hm : m = l.length := by obtain ⟨a', c', h1, _⟩ := h; cases h1; rfl
  obtain ⟨b, o, h1, h2⟩ := Rw.addr h (by intro e; have := congrArg List.length e; simp at this; rw [hm, this] at hn; simp at hn)
  exact ⟨b, o, h1, fun j hj => h2 j _ (by simp [bv, hj])⟩
theorem Bs.len {F : Fz} {a : Option Addr} {m c : Nat} {l : List UInt8} (h : Bs F (.slice a m c) l) : m = l.length := by
  obtain ⟨a', c', h1, _⟩ := h.shape
  cases h1; rfl
theorem Bs.takeN {F : Fz} {a : Option Addr} {n c k : Nat} {l : List UInt8} (h : Bs F (.slice a n c) l) (hk : k ≤ l.length) : Rw F (.slice a k c) k ((l.take k).map bv) := by
  obtain rfl := h.len
  have := Rw.takeN h hk 1
  rw [Nat.mul_one, ← List.map_take] at this
  exact this
/-- What a call that makes something hands back. -/
def Gives (w : World) (F : Fz) (R : Fz → Value → Prop) (e : Ending) (w' : World) : Prop := ∃ v F', e = .returned v ∧ Gr w F w' F' ∧ R F' v
/-- .. of a call that makes nothing that is handed back. -/
def Tells (w : World) (v : Value) (e : Ending) (w' : World) : Prop := e = .returned v ∧ Below w.heap.size w w'

/-- A row of the call's own, handed back. -/
theorem Gr.row {w w' : World} {F : Fz} {e size : Nat} {v : Value} {n : Nat} {xs : List Value} (hs : Sat w F) (hb : Below w.heap.size w w') (h : w'.ownsRow w.heap.size e size v n xs) :
    ∃ F', Gr w F w' F' ∧ Rw F' v n xs := by
  obtain ⟨g, h1, h2⟩ := Rw.of_owns h (hs.below hb)
  rcases h2 with rfl | h2
  · obtain ⟨a', c', e1, e2, e3, e4, e5⟩ := h1
    cases e1
    rcases e5 with rfl | ⟨_, _, e6, _⟩
    · exact ⟨F, Gr.of_below hs hb, Rw.nil F⟩
    · cases e6
  · exact ⟨_, (Gr.of_below hs hb).add h2, h1⟩
theorem below_nil {w w' : World} {v : Value} (h : w.grownBy w' v.ownBlock) (hv : v = .slice none 0 0) : Below w.heap.size w w' := by
  subst hv
  exact (Below.refl _ _).grown h (Nat.le_refl _) (fun k hk => by cases hk)
section
variable {P : Program} {w : World} {F : Fz}
theorem run_append_any (base : Nat) (t ty e : TypeId) (i : TypeInfo) (z : Value) (size bytes : Nat) (ht : P.underlying t = some (.slice e)) (hi : P.info? e = some i) (hz : i.zero = some z)
    (hsize : i.size = size) (hby : i.bytes = bytes) (hzs : z.cells.size = size) (hsz : 0 < size)
    {v : Value} {n : Nat} {xs : List Value} (hown : w.ownsRow base e size v n xs) {u : Value} {m : Nat} {news : List Value} (hs : Sat w F) (hr : Rw F u m news)
    (hl : news.length = m * size) (h1 : ∀ u ∈ news, u.oneCell' = true)
    (h63 : n + m ≤ maxLen) (hbytes : (n + m) * bytes ≤ 140737488355328) (hbase : base ≤ w.heap.size) :
    ∃ v' w', (Builtin.append_ #[t, t] ty #[v, u]).run P w = .ok v' w' ∧ w'.ownsRow base e size v' (n + m) (xs ++ news) ∧ w.grownBy w' v.ownBlock ∧
      (v' = .slice none 0 0 ↔ v = .slice none 0 0 ∧ m = 0) := by
  obtain ⟨a, c, rfl, h2, h3, h4, h5⟩ := hr
  cases a with
  | none =>
    obtain ⟨rfl, rfl⟩ := h4 rfl
    obtain rfl : news = [] := h5.resolve_right (by rintro ⟨_, _, e, _⟩; cases e)
    have hrun := run_append_owned_none (P := P) w base t ty e i size ht hi v n xs hown
    exact ⟨v, w, by simpa using hrun, by simpa using hown, World.grownBy.refl _ _, by simp⟩
  | some a =>
    refine run_append_own (P := P) w base t ty e i z size bytes ht hi hz hsize hby hzs hsz v n xs hown a m c news hl (fun j u hu => ?_) h1 h63 hbytes hbase
    rcases h5 with rfl | ⟨b, o, h6, h7⟩
    · simp at hu
    · cases h6
      have : (⟨b, o, none⟩ : Addr).add j = ⟨b, o + j, none⟩ := by unfold Addr.add; split <;> simp_all
      rw [this]; exact hs.cell (h7 j u hu)
theorem wpList_append_any {ops : Array Oper} {rest : List Oper} {o : Oper} {a : Act} {Q : Exit → Act → World → Prop} (hgd : o.guard = none) (s x : Operand) (t : TypeId)
    (ho : o.op = .call { callee := .builtin .append, args := #[s, x], argTypes := #[t, t] })
    (base : Nat) (e : TypeId) (i : TypeInfo) (z : Value) (size bytes : Nat) (ht : P.underlying t = some (.slice e)) (hi : P.info? e = some i) (hz : i.zero = some z)
    (hsize : i.size = size) (hby : i.bytes = bytes) (hzs : z.cells.size = size) (hsz : 0 < size)
    {v : Value} {n : Nat} {xs : List Value} (hv : a.eval s = v) (hown : w.ownsRow base e size v n xs) {u : Value} {m : Nat} {news : List Value} (hu : a.eval x = u) (hs : Sat w F) (hr : Rw F u m news)
    (hl : news.length = m * size) (h1 : ∀ u ∈ news, u.oneCell' = true)
    (h63 : n + m ≤ maxLen) (hbytes : (n + m) * bytes ≤ 140737488355328) (hbase : base ≤ w.heap.size)
    (h : ∀ v' w', w'.ownsRow base e size v' (n + m) (xs ++ news) → w.grownBy w' v.ownBlock → (v' = .slice none 0 0 ↔ v = .slice none 0 0 ∧ m = 0) → wpList P ops Q rest (a.put o.dst v') w') :
    wpList P ops Q (o :: rest) a w := by
  refine wpList_plain hgd fun K hK => ?_
  obtain ⟨v', w', hrun, h2, h3, h4⟩ := run_append_any (P := P) base t o.type e i z size bytes ht hi hz hsize hby hzs hsz hown hs hr hl h1 h63 hbytes hbase
  unfold Oper.wp execOp
  simp only [ho, resolve, invoke, builtin, Sem.run_bind, Sem.run_pure, Result.andThen_ok, List.map_toArray, List.map_cons, List.map_nil, hv, hu, hrun]
  exact hK _ _ (h v' w' h2 h3 h4)
theorem bv_oneCell (l : List UInt8) : ∀ u ∈ l.map bv, u.oneCell' = true := by
  intro u hu
  obtain ⟨_, _, rfl⟩ := List.mem_map.1 hu
  rfl
/-- 'string(b)'. -/
theorem run_string {src e dst : TypeId} (hsrc : P.underlying src = some (.slice e)) (he : P.underlying e = some (.int .u8)) (hd : P.underlying dst = some .string)
    {v : Value} {l : List UInt8} (hs : Sat w F) (h : Bs F v l) : (convert src dst v).run P w = .ok (.string ⟨l.toArray⟩) w := by
  obtain ⟨a, c, rfl, h2, h3, h4', h5⟩ := h
  by_cases hl : l = []
  · subst hl
    cases a with
    | none => exact run_convert_bytes_nil w src e hsrc he _ _ dst hd
    | some a =>
      show (convert src dst (.slice (some a) 0 c)).run P w = _
      rw [run_convert_bytes_string w src dst e _ 0 c hsrc he hd, run_bytesToString w a 0 c [] (run_loadCells_list (P := P) w a [] (by simp))]
      rfl
  · obtain ⟨b, o, rfl, h4⟩ := h5.resolve_left (by simpa using hl)
    have hh := run_convert_bytes_arg (P := P) w src e hsrc he b o l.length c (l.map fun x => (x.toNat : Int)) (by simp) (fun i hi => by
      rw [hs.cell (h4 i (.int .u8 (l[i].toNat : Int)) (by simp [bv, hi]))]
      simp [List.getD, hi]) dst hd
    rw [hh]
    congr 2
    unfold strOfNums
    simp only [List.map_map]
    have e : ((fun n : Int => UInt8.ofNat n.toNat) ∘ fun x : UInt8 => (x.toNat : Int)) = id := by funext x; simp
    rw [e, List.map_id]
end
end Go.Proofs.YtajmjolgphadoaaDoor
namespace Go.Proofs.YtajmjolgphadoaaDoor
open Go.RowKit
set_option maxRecDepth 100000

theorem infoU8 : (Tryd.prog.info? 5).map (fun i => (i.zero, i.size, i.bytes)) = some (some (.int .u8 0), 1, 1) := by kernel_rfl

set_option maxHeartbeats 400000 in
theorem some_spec (F : Fz) (w : World) (v : Value) (l : List UInt8) (mi : Int) (hs : Sat w F) (hv : Bs F v l) (h0 : 0 ≤ mi) (hm : mi ≤ 100000) :
    Calls Tryd.prog 46 #[v, .int .i64 mi] w (Gives w F fun F' u => Bs F' u (l.take mi.toNat)) := by
  obtain ⟨m, rfl⟩ := Int.eq_ofNat_of_zero_le h0
  rw [Int.toNat_natCast]
  obtain ⟨a, c, rfl, hlc, hcm⟩ := hv.shape
  obtain ⟨i, hi, hz0, hz1, hz2⟩ := info_parts infoU8
  have hcm' := hcm
  unfold maxLen at hcm
  by_cases hmin : l.length ≤ m
  · have hr := hv.takeN (Nat.le_refl _)
    go_enter Tryd.func46, Tryd.ntmps46
    go_wp2_with (at_builtin; go_loud (refine wpList_append_any rfl _ _ 27 rfl w.heap.size 5 i (.int .u8 0) 1 1 Tryd.underlying27 hi hz0 hz1 hz2 rfl (by decide) rfl (World.ownsRow_nil w _ _ _) rfl hs hr (by simp) (bv_oneCell _) (by unfold maxLen; omega) (by omega) (Nat.le_refl _) ?_))
    intro v1 w1 hown hg _
    go_wp2
    go_ret
    obtain ⟨F', h1, h2⟩ := Gr.row hs (below_nil hg rfl) hown
    exact ⟨_, F', rfl, h1, by simpa [Bs, List.take_of_length_le hmin] using h2⟩
  · have hr := hv.takeN (k := m) (by omega)
    go_enter Tryd.func46, Tryd.ntmps46
    go_wp2_with (at_builtin; go_loud (refine wpList_append_any rfl _ _ 27 rfl w.heap.size 5 i (.int .u8 0) 1 1 Tryd.underlying27 hi hz0 hz1 hz2 rfl (by decide) rfl (World.ownsRow_nil w _ _ _) rfl hs hr (by simp; omega) (bv_oneCell _) (by unfold maxLen; omega) (by omega) (Nat.le_refl _) ?_))
    intro v1 w1 hown hg _
    go_wp2
    go_ret
    obtain ⟨F', h1, h2⟩ := Gr.row hs (below_nil hg rfl) hown
    exact ⟨_, F', rfl, h1, by simpa [Bs, Nat.min_eq_left (show m ≤ l.length by omega)] using h2⟩

set_option maxHeartbeats 400000 in
theorem same_spec (F : Fz) (w : World) (v u : Value) (l m : List UInt8) (hs : Sat w F) (hv : Bs F v l) (hu : Bs F u m) :
    Calls Tryd.prog 16 #[v, u] w fun e w' => e = .returned (.bool (l == m)) ∧ w' = w := by
  have e1 := run_string (P := Tryd.prog) (src := 27) (dst := 9) Tryd.underlying27 Tryd.underlying5 Tryd.underlying9 hs hv
  have e2 := run_string (P := Tryd.prog) (src := 27) (dst := 9) Tryd.underlying27 Tryd.underlying5 Tryd.underlying9 hs hu
  go_enter Tryd.func16, Tryd.ntmps16
  go_wp2
  go_ret
  exact ⟨rfl, rfl⟩
def pick (n m : Int) : Int := (if n < 0 then -(n + 1) else n) % m
theorem pick_bd (n m : Int) (h : 1 ≤ m) : 0 ≤ pick n m ∧ pick n m < m := by
  unfold pick
  exact ⟨Int.emod_nonneg _ (by omega), Int.emod_lt_of_pos _ (by omega)⟩
set_option maxHeartbeats 400000 in
theorem picked_spec (n m : Int) (w : World) (h1 : -9223372036854775808 ≤ n) (h2 : n ≤ 9223372036854775807) (hm : 1 ≤ m) (hm2 : m ≤ 10000000) :
    Calls Tryd.prog 9 #[.int .i64 n, .int .i64 m] w fun e w' => e = .returned (.int .i64 (pick n m)) ∧ w' = w := by
  by_cases h : n < 0
  · have hp : Hid (pick n m = -((n + 1).tmod m)) := by unfold Hid pick; rw [if_pos h, ← Int.neg_tmod, Int.tmod_eq_emod_of_nonneg (by omega)]
    go_enter Tryd.func9, Tryd.ntmps9
    go_wp2
    go_ret
    refine ⟨?_, rfl⟩
    rw [hp.out]
    rfl
  · have hp : Hid (pick n m = n % m) := by unfold Hid pick; rw [if_neg h]
    go_enter Tryd.func9, Tryd.ntmps9
    go_wp2
    go_ret
    exact ⟨by rw [hp.out]; rfl, rfl⟩
end Go.Proofs.YtajmjolgphadoaaDoor
namespace Go.Proofs.YtajmjolgphadoaaDoor
open Go.RowKit

theorem less_irrefl : ∀ a : List UInt8, Op.bytesLess a a = false
  | [] => rfl
  | x :: a => by simp [Op.bytesLess, less_irrefl a]
end Go.Proofs.YtajmjolgphadoaaDoor
namespace Go.Proofs.YtajmjolgphadoaaDoor
open Go.RowKit Go.ChangeShapes Go.WideShapes Go.ChangeAt

/-- Lists element by element. -/
def AllR {α : Type} (R : List Value → α → Prop) : List (List Value) → List α → Prop
  | [], [] => True
  | x :: xs, p :: ps => R x p ∧ AllR R xs ps
  | _, _ => False
theorem AllR.len {α : Type} {R : List Value → α → Prop} : ∀ {xs : List (List Value)} {ps : List α}, AllR R xs ps → xs.length = ps.length
  | [], [], _ => rfl
  | _ :: xs, _ :: ps, h => by simp [AllR.len (xs := xs) (ps := ps) h.2]
  | [], _ :: _, h => h.elim
  | _ :: _, [], h => h.elim
theorem AllR.imp {α : Type} {R S : List Value → α → Prop} (hi : ∀ x p, R x p → S x p) : ∀ {xs : List (List Value)} {ps : List α}, AllR R xs ps → AllR S xs ps
  | [], [], _ => trivial
  | _ :: xs, _ :: ps, h => ⟨hi _ _ h.1, AllR.imp hi (xs := xs) (ps := ps) h.2⟩
  | [], _ :: _, h => h.elim
  | _ :: _, [], h => h.elim
theorem AllR.get {α : Type} {R : List Value → α → Prop} : ∀ {xs : List (List Value)} {ps : List α}, AllR R xs ps → ∀ (i : Nat) (h1 : i < xs.length) (h2 : i < ps.length), R xs[i] ps[i]
  | _ :: _, _ :: _, h, 0, _, _ => h.1
  | _ :: xs, _ :: ps, h, i + 1, h1, h2 => AllR.get (xs := xs) (ps := ps) h.2 i (by simpa using h1) (by simpa using h2)
  | [], _, _, _, h1, _ => by simp at h1
theorem AllR.of_get {α : Type} {R : List Value → α → Prop} : ∀ {xs : List (List Value)} {ps : List α}, xs.length = ps.length → (∀ (i : Nat) (h1 : i < xs.length) (h2 : i < ps.length), R xs[i] ps[i]) → AllR R xs ps
  | [], [], _, _ => trivial
  | x :: xs, p :: ps, hl, h => ⟨h 0 (by simp) (by simp), AllR.of_get (by simpa using hl) fun i h1 h2 => h (i + 1) (by simpa using h1) (by simpa using h2)⟩
  | [], _ :: _, hl, _ => by simp at hl
  | _ :: _, [], hl, _ => by simp at hl
theorem AllR.append {α : Type} {R : List Value → α → Prop} : ∀ {xs : List (List Value)} {ps : List α} {ys : List (List Value)} {qs : List α}, AllR R xs ps → AllR R ys qs → AllR R (xs ++ ys) (ps ++ qs)
  | [], [], _, _, _, k => k
  | _ :: xs, _ :: ps, _, _, h, k => ⟨h.1, AllR.append (xs := xs) (ps := ps) h.2 k⟩
  | [], _ :: _, _, _, h, _ => h.elim
  | _ :: _, [], _, _, h, _ => h.elim
theorem AllR.take {α : Type} {R : List Value → α → Prop} : ∀ {xs : List (List Value)} {ps : List α}, AllR R xs ps → ∀ k, AllR R (xs.take k) (ps.take k)
  | [], [], _, k => by simp [AllR]
  | _ :: xs, _ :: ps, h, 0 => by simp [AllR]
  | _ :: xs, _ :: ps, h, k + 1 => ⟨h.1, AllR.take (xs := xs) (ps := ps) h.2 k⟩
  | [], _ :: _, h, _ => h.elim
  | _ :: _, [], h, _ => h.elim
theorem AllR.drop {α : Type} {R : List Value → α → Prop} : ∀ {xs : List (List Value)} {ps : List α}, AllR R xs ps → ∀ k, AllR R (xs.drop k) (ps.drop k)
  | [], [], _, k => by simp [AllR]
  | _ :: xs, _ :: ps, h, 0 => h
  | _ :: xs, _ :: ps, h, k + 1 => AllR.drop (xs := xs) (ps := ps) h.2 k
  | [], _ :: _, h, _ => h.elim
  | _ :: _, [], h, _ => h.elim
/-- Cell j of element i, each of k cells. -/
theorem flatten_at : ∀ {el : List (List Value)} {k : Nat}, (∀ x ∈ el, x.length = k) → ∀ (i : Nat) (hi : i < el.length) (j : Nat), j < k → el.flatten[i * k + j]? = el[i][j]?
  | [], _, _, _, hi, _, _ => by simp at hi
  | x :: el, k, h, 0, _, j, hj => by
    have hx : x.length = k := h x (by simp)
    simp [List.getElem?_append, hx, hj]
  | x :: el, k, h, i + 1, hi, j, hj => by
    have hx : x.length = k := h x (by simp)
    have ih := flatten_at (el := el) (k := k) (fun y hy => h y (by simp [hy])) i (by simpa using hi) j hj
    simp only [List.flatten_cons, List.getElem_cons_succ]
    rw [List.getElem?_append_right (by rw [hx, Nat.add_mul]; omega), hx, show (i + 1) * k + j - k = i * k + j from by rw [Nat.add_mul]; omega, ih]
theorem flatten_len : ∀ {el : List (List Value)} {k : Nat}, (∀ x ∈ el, x.length = k) → el.flatten.length = el.length * k
  | [], _, _ => by simp
  | x :: el, k, h => by
    have ih := flatten_len (el := el) (k := k) (fun y hy => h y (by simp [hy]))
    simp only [List.flatten_cons, List.length_append, List.length_cons, ih, h x (by simp), Nat.add_mul]
    omega
/-- A slice of things of k cells each. -/
def Sl {α : Type} (k : Nat) (R : Fz → List Value → α → Prop) (F : Fz) (v : Value) (l : List α) : Prop :=
  ∃ el : List (List Value), Rw F v l.length el.flatten ∧ AllR (R F) el l ∧ ∀ x ∈ el, x.length = k
theorem Sl.mono {α : Type} {k : Nat} {R : Fz → List Value → α → Prop} (hR : ∀ F F' x p, Le F F' → R F x p → R F' x p) {F F' : Fz} {v : Value} {l : List α} (h : Sl k R F v l) (hl : Le F F') : Sl k R F' v l := by
  obtain ⟨el, h1, h2, h3⟩ := h
  exact ⟨el, h1.mono hl, h2.imp fun x p => hR F F' x p hl, h3⟩
theorem Sl.nil {α : Type} (k : Nat) (R : Fz → List Value → α → Prop) (F : Fz) : Sl k R F (.slice none 0 0) [] := ⟨[], Rw.nil F, trivial, by simp⟩
theorem Sl.shape {α : Type} {k : Nat} {R : Fz → List Value → α → Prop} {F : Fz} {v : Value} {l : List α} (h : Sl k R F v l) : ∃ a c, v = .slice a l.length c ∧ l.length ≤ c ∧ c ≤ maxLen := by
  obtain ⟨el, h1, _⟩ := h
  exact h1.shape
/-- Element i, its cells, and what they are. -/
theorem Sl.at {α : Type} {k : Nat} {R : Fz → List Value → α → Prop} {F : Fz} {a : Option Addr} {n c : Nat} {l : List α} (h : Sl k R F (.slice a n c) l) (hk : 0 < k) (hn : 0 < n) :
    ∃ b o, a = some ⟨b, o, none⟩ ∧ ∀ (i : Nat) (hi : i < l.length), ∃ x, x.length = k ∧ R F x l[i] ∧ ∀ j (hj : j < x.length), cellF F b (o + (i * k + j)) = some x[j] := by
  obtain ⟨el, h1, h2, h3⟩ := h
  have hlen := h2.len
  have hm : n = l.length := by obtain ⟨a', c', e, _⟩ := h1; cases e; rfl
  have hne : el.flatten ≠ [] := by
    intro e
    have := congrArg List.length e
    rw [flatten_len h3, hlen, ← hm] at this
    have := Nat.mul_pos hn hk
    simp at *
    omega
  obtain ⟨b, o, e, hc⟩ := Rw.addr h1 hne
  refine ⟨b, o, e, fun i hi => ⟨el[i]'(by omega), h3 _ (List.getElem_mem _), h2.get i (by omega) hi, fun j hj => ?_⟩⟩
  have hj' : j < k := by rw [h3 _ (List.getElem_mem _)] at hj; exact hj
  exact hc _ _ (by rw [flatten_at h3 i (by omega) j hj']; simp [hj])

theorem addr_add_add (a : Addr) (i j : Nat) : (a.add i).add j = a.add (i + j) := by
  unfold Addr.add
  by_cases h1 : i = 0 <;> by_cases h2 : j = 0 <;> simp [h1, h2, Nat.add_assoc]
theorem choose_list {β : Type} {Q : Nat → β → Prop} : ∀ n, (∀ i, i < n → ∃ b, Q i b) → ∃ l : List β, l.length = n ∧ ∀ (i : Nat) (h : i < l.length), Q i l[i]
  | 0, _ => ⟨[], rfl, fun i h => by simp at h⟩
  | n + 1, h => by
    obtain ⟨l, h1, h2⟩ := choose_list n (fun i hi => h i (by omega))
    obtain ⟨b, hb⟩ := h n (by omega)
    refine ⟨l ++ [b], by simp [h1], fun i hi => ?_⟩
    by_cases hn : i < l.length
    · rw [List.getElem_append_left hn]; exact h2 i hn
    · have : i = n := by simp at hi; omega
      subst this
      simpa [h1] using hb
section
variable {H : Type} {enc : TypeId × Value → H} {P : Program} {w : World}
theorem cell_back {a : Addr} {v : Value} (h : w.cell? a = some v) : a.spot = none ∧ cellF (whole w) a.block a.off = some v := by
  unfold World.cell? at h
  unfold cellF whole
  split at h
  · rename_i c t fr hb
    split at h
    · cases h
    · rename_i hs
      rw [hb]
      exact ⟨by simpa using hs, h⟩
  · cases h
/-- A slice that came in. -/
theorem rd_slice {α : Type} {k : Nat} {R : Fz → List Value → α → Prop} {t e : TypeId} {fuel : Nat} {v : Value} {x : DataW H × List MemPlace} (ht : P.underlying t = some (.slice e)) (hc : P.cellsOf e = k) (hk : 0 < k)
    (h : DataW.trod enc P w 0 (fun _ => true) true fuel t [v] = some x)
    (hR : ∀ n cs y, cs.length = k → DataW.trod enc P w 0 (fun _ => true) true n e cs = some y → ∃ p, R (whole w) cs p) : ∃ l : List α, Sl k R (whole w) v l := by
  rcases Deep.open_slice ht h with ⟨h0, _⟩ | ⟨a, len, cap, m, n, D, Pl, h0, hb, hl, hm, hmm, _, hx⟩
  · cases h0
    exact ⟨[], Sl.nil _ _ _⟩
  · cases h0
    rw [hc] at hx
    have hlm : len ≤ m := by rw [hmm]; simp; exact hl
    have each : ∀ i, i < len → ∃ q : List Value × α, q.1.length = k ∧ (∀ j, j < k → w.cell? (a.add (i * k + j)) = q.1[j]?) ∧ R (whole w) q.1 q.2 := by
      intro i hi
      obtain ⟨cs', h1, h2⟩ := hx i (by omega)
      obtain ⟨h3, h4, h5⟩ := World.cells?_some h1
      obtain ⟨p, hp⟩ := hR n cs' _ h4 h2
      refine ⟨(cs', p), h4, fun j hj => ?_, hp⟩
      rw [← h5 j hj, addr_add_add]
    obtain ⟨L, hL, hall⟩ := choose_list len each
    have hk3 : ∀ x ∈ L.map (·.1), x.length = k := by
      intro x hx
      obtain ⟨q, hq, rfl⟩ := List.mem_map.1 hx
      obtain ⟨i, hi, rfl⟩ := List.mem_iff_getElem.1 hq
      exact (hall i hi).1
    refine ⟨L.map (·.2), L.map (·.1), ⟨some a, cap, by simp [hL], by simpa [hL] using hl, hm, (fun h => nomatch h), ?_⟩, AllR.of_get (by simp) (fun i h1 h2 => by simpa using (hall i (by simpa using h1)).2.2), hk3⟩
    by_cases h0 : len = 0
    · left
      have : L = [] := List.eq_nil_of_length_eq_zero (by omega)
      simp [this]
    · right
      have c0 := (hall 0 (by omega)).2.1 0 hk
      have hl0 := (hall 0 (by omega)).1
      rw [show 0 * k + 0 = 0 from by omega] at c0
      have c0' : w.cell? a = some ((L[0]'(by omega)).1[0]'(by omega)) := by
        have e : a.add 0 = a := by simp [Addr.add]
        rw [e] at c0
        rw [c0]; simp
      have hspot := (cell_back c0').1
      obtain ⟨b, o, sp⟩ := a
      simp at hspot
      subst hspot
      refine ⟨b, o, rfl, fun j u hu => ?_⟩
      have hjl : j < (L.map (·.1)).flatten.length := (List.getElem?_eq_some_iff.1 hu).1
      rw [flatten_len hk3, List.length_map] at hjl
      have hi : j / k < L.length := Nat.div_lt_of_lt_mul (by rw [Nat.mul_comm]; exact hjl)
      have hr : j % k < k := Nat.mod_lt _ hk
      have hj : j / k * k + j % k = j := by rw [Nat.mul_comm]; exact Nat.div_add_mod _ _
      have hf := flatten_at hk3 (j / k) (by simpa using hi) (j % k) hr
      rw [hj] at hf
      rw [hf] at hu
      have hc := (hall (j / k) hi).2.1 (j % k) hr
      rw [hj] at hc
      have hc' : w.cell? (Addr.add ⟨b, o, none⟩ j) = some u := by rw [hc]; simpa using hu
      have e : Addr.add ⟨b, o, none⟩ j = ⟨b, o + j, none⟩ := by unfold Addr.add; split <;> simp_all
      rw [e] at hc'
      exact (cell_back hc').2
/-- Bytes that came in. -/
theorem rd_bytes_cells {t e : TypeId} {fuel : Nat} {v : Value} {x : DataW H × List MemPlace} (ht : P.underlying t = some (.slice e)) (he : P.underlying e = some (.int .u8)) (hc : P.cellsOf e = 1)
    (h : DataW.trod enc P w 0 (fun _ => true) true fuel t [v] = some x) : ∃ l : List UInt8, Bs (whole w) v l := by
  obtain ⟨l, el, h1, h2, h3⟩ := rd_slice (α := UInt8) (k := 1) (R := fun _ cs b => cs = [bv b]) ht hc (by omega) h (fun n cs y hl hy => by
    obtain ⟨c, rfl⟩ := List.length_eq_one_iff.1 hl
    obtain ⟨z, hz, _, hwf⟩ := DataW.trod_int he hy
    simp at hz
    subst hz
    refine ⟨UInt8.ofNat z.toNat, ?_⟩
    have hb := bounds_u8 hwf
    have : z.toNat < 256 := by omega
    simp only [bv, UInt8.toNat_ofNat', List.cons.injEq, and_true]
    congr 1
    omega)
  refine ⟨l, ?_⟩
  have : el.flatten = l.map bv := by
    clear h1 h3
    induction el generalizing l with
    | nil => cases l with
      | nil => rfl
      | cons _ _ => exact h2.elim
    | cons x xs ih => cases l with
      | nil => exact h2.elim
      | cons p ps =>
        have := h2.1
        simp only [List.flatten_cons, List.map_cons]
        rw [ih ps h2.2, this]
        rfl
  unfold Bs
  rw [← this]
  exact h1
end
end Go.Proofs.YtajmjolgphadoaaDoor
namespace Go.Proofs.YtajmjolgphadoaaDoor
open Go.RowKit

/-- What is known of an operation ahead of the walk: it leaves the world alone; it hands back just this; it hands back something of which this holds, now and later. -/
inductive OpSpec where
  | pure
  | const (v : Value)
  | rel (R : Value → World → Prop)
def Stable (R : Value → World → Prop) : Prop := ∀ v w w', R v w → Below w.heap.size w w' → R v w'
abbrev Vals := Nat → Option Value
def upd (Vs : Vals) (i : Nat) (v : Value) : Vals := fun j => if j = i then some v else Vs j
theorem upd_comm (Vs : Vals) {i j : Nat} (h : i ≠ j) (v u : Value) : upd (upd Vs i v) j u = upd (upd Vs j u) i v := by
  funext k
  simp only [upd]
  by_cases h1 : k = i
  · subst h1
    simp [h]
  · by_cases h2 : k = j
    · subst h2
      simp [h1]
    · simp [h1, h2]
def factOf (s : OpSpec) (v : Value) (w : World) : Prop := match s with | .rel R => R v w | _ => True
def next (s : OpSpec) (Vs : Vals) (i : Nat) (v : Value) : Vals := match s with | .rel _ => upd Vs i v | _ => Vs
theorem next_comm (s t : OpSpec) (Vs : Vals) {i j : Nat} (h : i ≠ j) (v u : Value) : next t (next s Vs i v) j u = next s (next t Vs j u) i v := by
  cases s <;> cases t <;> simp [next]
  exact upd_comm Vs h v u
/-- Does operation j wait for i, at once or through others? -/
def ancB (md : Region.Mode) (ops : Array Oper) : Nat → Nat → Nat → Bool
  | 0, _, _ => false
  | f + 1, j, i => match ops[j]? with
    | some o => o.after.any fun e => Region.binds md e && (e.on == i || ancB md ops f e.on i)
    | none => false
section
variable {P : Program} {ops : Array Oper} {md : Region.Mode} {C : World → Prop} {Sp : Nat → OpSpec}
theorem anc_listed {n : Nat} {listed : Array Bool} (inv : HeadInv md ops n listed) : ∀ (f x i : Nat), listed.getD x false = true → ancB md ops f x i = true → listed.getD i false = true
  | 0, _, _, _, h => by simp [ancB] at h
  | f + 1, x, i, hx, h => by
    unfold ancB at h
    split at h
    · rename_i o ho
      obtain ⟨e, he, hb⟩ := Array.any_eq_true'.1 h
      simp only [Bool.and_eq_true, Bool.or_eq_true, beq_iff_eq] at hb
      have hl := inv.closed x o ho hx e he hb.1
      rcases hb.2 with h1 | h1
      · rw [h1] at hl; exact hl
      · exact anc_listed inv f e.on i hl h1
    · cases h
theorem anc_ready {n : Nat} {listed : Array Bool} (inv : HeadInv md ops n listed) {j : Nat} (hj : j ∈ Region.ready md ops listed) (f i : Nat) (h : ancB md ops f j i = true) : listed.getD i false = true := by
  cases f with
  | zero => simp [ancB] at h
  | succ f =>
    obtain ⟨_, o, ho, hall⟩ := mem_ready.1 hj
    unfold ancB at h
    rw [ho] at h
    obtain ⟨e, he, hb⟩ := Array.any_eq_true'.1 h
    simp only [Bool.and_eq_true, Bool.or_eq_true, beq_iff_eq] at hb
    have hl := hall e he hb.1
    rcases hb.2 with h1 | h1
    · rw [h1] at hl; exact hl
    · exact anc_listed inv f e.on i hl h1
def Facts (Sp : Nat → OpSpec) (Vs : Vals) (w : World) : Prop := ∀ i v, Vs i = some v → factOf (Sp i) v w
def FactsAt (md : Region.Mode) (ops : Array Oper) (Sp : Nat → OpSpec) (j : Nat) (Vs : Vals) (w : World) : Prop := ∀ i v, ancB md ops ops.size j i = true → Vs i = some v → factOf (Sp i) v w
theorem factsAt_next {i j : Nat} (h : ancB md ops ops.size j i = false) (Vs : Vals) (v : Value) (w : World) : FactsAt md ops Sp j (next (Sp i) Vs i v) w ↔ FactsAt md ops Sp j Vs w := by
  have e : ∀ k, ancB md ops ops.size j k = true → next (Sp i) Vs i v k = Vs k := by
    intro k hk
    cases Sp i with
    | pure => rfl
    | const _ => rfl
    | rel R =>
      show upd Vs i v k = _
      unfold upd
      rw [if_neg (by rintro rfl; rw [h] at hk; cases hk)]
  constructor
  · intro H k u hk hu; exact H k u hk (by rw [e k hk]; exact hu)
  · intro H k u hk hu; exact H k u hk (by rw [← e k hk]; exact hu)
/-- What a call leaves: a value of which this holds. -/
def CallPost (Φ : Value → World → Prop) (e : Ending) (w' : World) : Prop := ∃ v, e = .returned v ∧ Φ v w'
def IsPost (v : Value) (w : World) (u : Value) (w' : World) : Prop := u = v ∧ Below w.heap.size w w'
def RelPost (R : Value → World → Prop) (w : World) (u : Value) (w' : World) : Prop := R u w' ∧ Below w.heap.size w w'
def DoesR (P : Program) (w : World) (Φ : Value → World → Prop) : Result Next → Prop
  | .ok (.value u) w' => Φ u w'
  | .ok .skip w' => Φ undef w'
  | .ok (.enter f args) w' => w' = w ∧ Calls P f args w (CallPost Φ)
  | _ => False
def Does (P : Program) (o : Oper) (a : Act) (w : World) (Φ : Value → World → Prop) : Prop := DoesR P w Φ ((execOp a.eval o).run P w)
def PureR (w : World) (v : Value) : Result Next → Prop
  | .ok (.value u) w' => w' = w ∧ u = v
  | .ok .skip w' => w' = w ∧ undef = v
  | _ => False
def PureAt (P : Program) (o : Oper) (a : Act) (w : World) (v : Value) : Prop := PureR w v ((execOp a.eval o).run P w)
theorem PureAt.unique {o : Oper} {a : Act} {w : World} {v u : Value} (h : PureAt P o a w v) (k : PureAt P o a w u) : v = u := by
  unfold PureAt at *
  generalize (execOp a.eval o).run P w = r at *
  cases r with
  | ok n w' => cases n <;> simp only [PureR] at h k <;> exact h.2.symm.trans k.2
  | halt x w' => simp only [PureR] at h
theorem Oper.wp_of_does {o : Oper} {a : Act} {w : World} {Φ : Value → World → Prop} {K : Act → World → Prop} {Q' : Exit → Act → World → Prop} (h : Does P o a w Φ) (hk : ∀ v w', Φ v w' → K (a.put o.dst v) w') : o.wp P a w K Q' := by
  unfold Does at h
  unfold Oper.wp
  generalize (execOp a.eval o).run P w = r at *
  cases r with
  | ok n w' =>
    cases n <;> simp only [DoesR] at h <;> simp only [Oper.upon]
    case value u => exact hk _ _ h
    case skip => exact hk _ _ h
    case enter f args =>
      obtain ⟨rfl, h⟩ := h
      exact h.mono fun e w'' hh => by obtain ⟨v, he, hw⟩ := hh; subst he; exact hk _ _ hw
  | halt x w' => simp only [DoesR] at h
theorem Oper.wp_of_pure {o : Oper} {a : Act} {w : World} {v : Value} {K : Act → World → Prop} {Q' : Exit → Act → World → Prop} (h : PureAt P o a w v) (hk : K (a.put o.dst v) w) : o.wp P a w K Q' := by
  unfold PureAt at h
  unfold Oper.wp
  generalize (execOp a.eval o).run P w = r at *
  cases r with
  | ok n w' =>
    cases n <;> simp only [PureR] at h <;> simp only [Oper.upon]
    case value u => obtain ⟨rfl, rfl⟩ := h; exact hk
    case skip => obtain ⟨rfl, rfl⟩ := h; exact hk
  | halt x w' => simp only [PureR] at h
/-- What operation i owes, and which values it may leave. -/
def Ob (P : Program) (md : Region.Mode) (ops : Array Oper) (C : World → Prop) (Sp : Nat → OpSpec) (i : Nat) (o : Oper) (a : Act) (Vs : Vals) (S : Value → Prop) : Prop :=
  match Sp i with
  | .pure => ∃ v, S = (fun u => u = v) ∧ ∀ w, C w → PureAt P o a w v
  | .const v => S = (fun u => u = v) ∧ ∀ w, C w → FactsAt md ops Sp i Vs w → Does P o a w (IsPost v w)
  | .rel R => S = (fun _ => True) ∧ ∀ w, C w → FactsAt md ops Sp i Vs w → Does P o a w (RelPost R w)
theorem Ob.some {i : Nat} {o : Oper} {a : Act} {Vs : Vals} {S : Value → Prop} (h : Ob P md ops C Sp i o a Vs S) : ∃ v, S v := by
  unfold Ob at h
  split at h
  · obtain ⟨v, rfl, _⟩ := h; exact ⟨v, rfl⟩
  · rename_i v _; obtain ⟨rfl, _⟩ := h; exact ⟨v, rfl⟩
  · obtain ⟨rfl, _⟩ := h; exact ⟨undef, trivial⟩
theorem Ob.unique (hC : ∃ w, C w) {i : Nat} {o : Oper} {a : Act} {Vs : Vals} {S T : Value → Prop} (h : Ob P md ops C Sp i o a Vs S) (k : Ob P md ops C Sp i o a Vs T) : S = T := by
  obtain ⟨w, hw⟩ := hC
  unfold Ob at h k
  split at h
  · rename_i e
    simp only [e] at k
    obtain ⟨v, rfl, h1⟩ := h
    obtain ⟨u, rfl, k1⟩ := k
    rw [(h1 w hw).unique (k1 w hw)]
  · rename_i v e
    simp only [e] at k
    rw [h.1, k.1]
  · rename_i R e
    simp only [e] at k
    rw [h.1, k.1]
theorem Ob.congr {i : Nat} {o : Oper} {a a' : Act} {Vs Vs' : Vals} {S : Value → Prop} (he : execOp a'.eval o = execOp a.eval o) (hf : ∀ w, FactsAt md ops Sp i Vs' w ↔ FactsAt md ops Sp i Vs w) (h : Ob P md ops C Sp i o a Vs S) : Ob P md ops C Sp i o a' Vs' S := by
  unfold Ob at *
  split
  · rename_i e
    simp only [e] at h
    obtain ⟨v, h1, h2⟩ := h
    exact ⟨v, h1, fun w hw => by have := h2 w hw; unfold PureAt at *; rw [he]; exact this⟩
  · rename_i v e
    simp only [e] at h
    exact ⟨h.1, fun w hw hF => by have := h.2 w hw ((hf w).1 hF); unfold Does at *; rw [he]; exact this⟩
  · rename_i R e
    simp only [e] at h
    exact ⟨h.1, fun w hw hF => by have := h.2 w hw ((hf w).1 hF); unfold Does at *; rw [he]; exact this⟩
/-- Operation number i comes up. -/
def gOp (P : Program) (md : Region.Mode) (ops : Array Oper) (C : World → Prop) (Sp : Nat → OpSpec) (i : Nat) (K : Act → Vals → Prop) (a : Act) (Vs : Vals) : Prop :=
  match ops[i]? with
  | none => K a Vs
  | some o => if Region.wanted o (yielded ops a.tmps) = true then ∃ S, Ob P md ops C Sp i o a Vs S ∧ ∀ v, S v → K (a.put o.dst v) (next (Sp i) Vs i v) else K (a.put o.dst undef) Vs
theorem gOp_mono {i : Nat} {K K' : Act → Vals → Prop} {a : Act} {Vs : Vals} (h : ∀ a Vs, K a Vs → K' a Vs) (hh : gOp P md ops C Sp i K a Vs) : gOp P md ops C Sp i K' a Vs := by
  unfold gOp at *
  split
  · rename_i e; simp only [e] at hh; exact h _ _ hh
  · rename_i o e
    simp only [e] at hh
    split
    · rename_i hw; rw [if_pos hw] at hh; obtain ⟨S, h1, h2⟩ := hh; exact ⟨S, h1, fun v hv => h _ _ (h2 v hv)⟩
    · rename_i hw; rw [if_neg hw] at hh; exact h _ _ hh
theorem gOp_some {i : Nat} {K : Act → Vals → Prop} {a : Act} {Vs : Vals} (hh : gOp P md ops C Sp i K a Vs) : ∃ a' Vs', K a' Vs' := by
  unfold gOp at hh
  split at hh
  · exact ⟨_, _, hh⟩
  · split at hh
    · obtain ⟨S, h1, h2⟩ := hh
      obtain ⟨v, hv⟩ := h1.some
      exact ⟨_, _, h2 v hv⟩
    · exact ⟨_, _, hh⟩
theorem gOp_swap (hC : ∃ w, C w) {i j : Nat} {oi oj : Oper} (hi : ops[i]? = some oi) (hj : ops[j]? = some oj) (hij : i ≠ j) (hap : oi.apart ops oj = true)
    (hsi : ∀ cs b, oi.op ≠ .select cs b) (hsj : ∀ cs b, oj.op ≠ .select cs b) (hni : ancB md ops ops.size j i = false) (hnj : ancB md ops ops.size i j = false)
    {K : Act → Vals → Prop} {a : Act} {Vs : Vals} (h : gOp P md ops C Sp i (gOp P md ops C Sp j K) a Vs) : gOp P md ops C Sp j (gOp P md ops C Sp i K) a Vs := by
  obtain ⟨h1, h2, h3⟩ := Oper.apart_spec hap
  have wj : ∀ (a : Act) (v : Value), Region.wanted oj (yielded ops (a.put oi.dst v).tmps) = Region.wanted oj (yielded ops a.tmps) := fun a v => wanted_put oj a oi.dst v h1
  have wi : ∀ (a : Act) (v : Value), Region.wanted oi (yielded ops (a.put oj.dst v).tmps) = Region.wanted oi (yielded ops a.tmps) := fun a v => wanted_put oi a oj.dst v h3
  have ej : ∀ (a : Act) (v : Value), execOp (a.put oi.dst v).eval oj = execOp a.eval oj := fun a v => execOp_put oj hsj a oi.dst v h1
  have ei : ∀ (a : Act) (v : Value), execOp (a.put oj.dst v).eval oi = execOp a.eval oi := fun a v => execOp_put oi hsi a oj.dst v h3
  unfold gOp at h ⊢
  simp only [hi, hj] at h ⊢
  by_cases Wi : Region.wanted oi (yielded ops a.tmps) = true
  · rw [if_pos Wi] at h
    obtain ⟨S, hS, hall⟩ := h
    obtain ⟨v0, hv0⟩ := hS.some
    by_cases Wj : Region.wanted oj (yielded ops a.tmps) = true
    · rw [if_pos Wj]
      have hall' : ∀ v, S v → ∃ T, Ob P md ops C Sp j oj a Vs T ∧ ∀ u, T u → K ((a.put oi.dst v).put oj.dst u) (next (Sp j) (next (Sp i) Vs i v) j u) := by
        intro v hv
        have := hall v hv
        rw [if_pos (by rw [wj]; exact Wj)] at this
        obtain ⟨T, hT, hK⟩ := this
        exact ⟨T, hT.congr (ej a v).symm (fun w => (factsAt_next hni Vs v w).symm), hK⟩
      obtain ⟨T, hT, _⟩ := hall' v0 hv0
      refine ⟨T, hT, fun u hu => ?_⟩
      rw [if_pos (by rw [wi]; exact Wi)]
      refine ⟨S, hS.congr (ei a u) (fun w => factsAt_next hnj Vs u w), fun v hv => ?_⟩
      obtain ⟨T', hT', hK⟩ := hall' v hv
      have := hK u (by rw [← hT.unique hC hT']; exact hu)
      rwa [Act.put_comm a v u h2, next_comm (Sp i) (Sp j) Vs hij v u] at this
    · rw [if_neg Wj, if_pos (by rw [wi]; exact Wi)]
      refine ⟨S, hS.congr (ei a undef) (fun w => Iff.rfl), fun v hv => ?_⟩
      have := hall v hv
      rw [if_neg (by rw [wj]; exact Wj)] at this
      rwa [Act.put_comm a v undef h2] at this
  · rw [if_neg Wi] at h
    by_cases Wj : Region.wanted oj (yielded ops a.tmps) = true
    · rw [if_pos (by rw [wj]; exact Wj)] at h
      obtain ⟨T, hT, hK⟩ := h
      rw [if_pos Wj]
      refine ⟨T, hT.congr (ej a undef).symm (fun w => Iff.rfl), fun u hu => ?_⟩
      rw [if_neg (by rw [wi]; exact Wi)]
      have := hK u hu
      rwa [Act.put_comm a undef u h2] at this
    · rw [if_neg (by rw [wj]; exact Wj)] at h
      rw [if_neg Wj, if_neg (by rw [wi]; exact Wi)]
      rwa [Act.put_comm a undef undef h2] at h
/-- Whatever order is picked, till the first n are done. -/
def wpAnyG (P : Program) (md : Region.Mode) (ops : Array Oper) (C : World → Prop) (Sp : Nat → OpSpec) (n : Nat) (L : Array Bool → Act → Vals → Prop) : Nat → Array Bool → Act → Vals → Prop
  | 0, listed, a, Vs => L listed a Vs
  | f + 1, listed, a, Vs => Region.ready md ops listed ≠ [] ∧ ∀ i ∈ Region.ready md ops listed, i < n ∧ gOp P md ops C Sp i (wpAnyG P md ops C Sp n L f (listed.setIfInBounds i true)) a Vs
theorem wpAny_of_G (hst : ∀ i v w w', factOf (Sp i) v w → Below w.heap.size w w' → factOf (Sp i) v w') (hCE : ∀ w w', C w → Below w.heap.size w w' → C w') {n g : Nat} {L : Array Bool → Act → Vals → Prop} {Q' : Exit → Act → World → Prop}
    (hL : ∀ listed a Vs w, C w → Facts Sp Vs w → L listed a Vs → wpAny P md ops Q' g listed a w) :
    ∀ (f : Nat) (listed : Array Bool) (a : Act) (Vs : Vals) (w : World), C w → Facts Sp Vs w → wpAnyG P md ops C Sp n L f listed a Vs → wpAny P md ops Q' (f + g) listed a w
  | 0, listed, a, Vs, w, hc, hF, h => by rw [Nat.zero_add]; exact hL _ _ _ _ hc hF h
  | f + 1, listed, a, Vs, w, hc, hF, h => by
    rw [show f + 1 + g = (f + g) + 1 by omega]
    refine ⟨fun h0 => absurd h0 h.1, fun i hi => ?_⟩
    have hg := (h.2 i hi).2
    unfold gOp at hg
    unfold wpOp
    split
    · rename_i e
      simp only [e] at hg
      exact wpAny_of_G hst hCE hL f _ a Vs w hc hF hg
    · rename_i o e
      simp only [e] at hg
      split
      · rename_i hw
        rw [if_pos hw] at hg
        obtain ⟨S, hS, hall⟩ := hg
        left
        unfold Ob at hS
        split at hS
        · rename_i es
          obtain ⟨v, rfl, hp⟩ := hS
          have hn := hall v rfl
          simp only [es, next] at hn
          exact Oper.wp_of_pure (hp w hc) (wpAny_of_G hst hCE hL f _ _ Vs w hc hF hn)
        · rename_i v es
          obtain ⟨rfl, hp⟩ := hS
          have hn := hall v rfl
          simp only [es, next] at hn
          refine Oper.wp_of_does (hp w hc fun i' v' _ hv => hF i' v' hv) fun u w' ⟨hu, hb⟩ => ?_
          subst hu
          exact wpAny_of_G hst hCE hL f _ _ Vs w' (hCE w w' hc hb) (fun i' v' hv => hst i' v' w w' (hF i' v' hv) hb) hn
        · rename_i R es
          obtain ⟨rfl, hp⟩ := hS
          refine Oper.wp_of_does (hp w hc fun i' v' _ hv => hF i' v' hv) fun u w' ⟨hu, hb⟩ => ?_
          have hn := hall u trivial
          refine wpAny_of_G hst hCE hL f _ _ _ w' (hCE w w' hc hb) (fun i' v' hv => ?_) hn
          simp only [es, next] at hv
          unfold upd at hv
          split at hv
          · rename_i e'
            subst e'
            cases hv
            simp only [es, factOf]
            exact hu
          · exact hst i' v' w w' (hF i' v' hv) hb
      · rename_i hw
        rw [if_neg hw] at hg
        exact wpAny_of_G hst hCE hL f _ _ Vs w hc hF hg
theorem wpAnyG_first (hC : ∃ w, C w) {n i : Nat} {oi : Oper} {L : Array Bool → Act → Vals → Prop} (hi : ops[i]? = some oi) (hsel : ∀ (j : Nat) (o : Oper) cs b, ops[j]? = some o → o.op ≠ .select cs b)
    (hs : Region.sinkB md ops n = true) (hc : Region.chainB md ops n = true) (hn : n < ops.size) (hin : i < n)
    (hdone : ∀ listed a Vs, L listed a Vs → ∀ j ∈ Region.ready md ops listed, n ≤ j) :
    ∀ (f : Nat) (listed : Array Bool) (a : Act) (Vs : Vals), HeadInv md ops n listed →
      (∀ j oj, ops[j]? = some oj → j ≠ i → listed.getD j true = false → (∀ e ∈ oj.after, Region.binds md e = true → e.on ≠ i) → oi.apart ops oj = true) →
      i ∈ Region.ready md ops listed →
      gOp P md ops C Sp i (wpAnyG P md ops C Sp n L f (listed.setIfInBounds i true)) a Vs → wpAnyG P md ops C Sp n L (f + 1) listed a Vs := by
  intro f
  induction f with
  | zero =>
    intro listed a Vs inv _ hr H
    have hun := (mem_ready.1 hr).1
    refine ⟨fun h => (by rw [h] at hr; cases hr), fun j hj => ?_⟩
    have hjn : j < n := by
      rcases Nat.lt_or_ge j n with h | h
      · exact h
      · exact absurd hj (tail_waits hs hc hn inv _ i rfl hin hun j h)
    refine ⟨hjn, ?_⟩
    by_cases hji : j = i
    · subst hji; exact H
    · obtain ⟨a', Vs', hL⟩ := gOp_some H
      have := hdone _ _ _ hL j (ready_mono hj hji)
      omega
  | succ f ih =>
    intro listed a Vs inv hfree hr H
    have hun := (mem_ready.1 hr).1
    refine ⟨fun h => (by rw [h] at hr; cases hr), fun j hj => ?_⟩
    have hjn : j < n := by
      rcases Nat.lt_or_ge j n with h | h
      · exact h
      · exact absurd hj (tail_waits hs hc hn inv _ i rfl hin hun j h)
    refine ⟨hjn, ?_⟩
    by_cases hji : j = i
    · subst hji; exact H
    · obtain ⟨hjun, oj, hoj, hall⟩ := mem_ready.1 hj
      have hnot : ∀ e ∈ oj.after, Region.binds md e = true → e.on ≠ i := fun e he hb heq => by
        have h1 := hall e he hb
        rw [heq, getD_both hun] at h1
        cases h1
      have a1 : ancB md ops ops.size j i = false := by
        cases hx : ancB md ops ops.size j i with
        | false => rfl
        | true => have := anc_ready inv hj _ _ hx; rw [getD_both hun] at this; cases this
      have a2 : ancB md ops ops.size i j = false := by
        cases hx : ancB md ops ops.size i j with
        | false => rfl
        | true => have := anc_ready inv hr _ _ hx; rw [getD_both hjun] at this; cases this
      have H1 : gOp P md ops C Sp i (gOp P md ops C Sp j (wpAnyG P md ops C Sp n L f ((listed.setIfInBounds i true).setIfInBounds j true))) a Vs :=
        gOp_mono (fun a' Vs' h => (h.2 j (ready_mono hj hji)).2) H
      have H2 := gOp_swap hC hi hoj (Ne.symm hji) (hfree j oj hoj hji hjun hnot) (fun cs b => hsel i oi cs b hi) (fun cs b => hsel j oj cs b hoj) a1 a2 H1
      have hfree' : ∀ k ok, ops[k]? = some ok → k ≠ i → (listed.setIfInBounds j true).getD k true = false →
          (∀ e ∈ ok.after, Region.binds md e = true → e.on ≠ i) → oi.apart ops ok = true := fun k ok hk hki hun' hno => by
        refine hfree k ok hk hki ?_ hno
        by_cases hjk : j = k
        · subst hjk; exact hjun
        · rw [getD_set_ne true hjk] at hun'; exact hun'
      refine gOp_mono (fun a' Vs' h3 => ih (listed.setIfInBounds j true) a' Vs' (inv.set hj hjn) hfree' (ready_mono hr (Ne.symm hji)) ?_) H2
      rw [Array.setIfInBounds_comm _ _ hji]
      exact h3
/-- The walk in the order of the text. -/
def wpG (P : Program) (md : Region.Mode) (ops : Array Oper) (C : World → Prop) (Sp : Nat → OpSpec) (Lq : Act → Vals → Prop) : List Oper → Nat → Act → Vals → Prop
  | [], _, a, Vs => Lq a Vs
  | o :: l, k, a, Vs => if Region.wanted o (yielded ops a.tmps) = true then ∃ S, Ob P md ops C Sp k o a Vs S ∧ ∀ v, S v → wpG P md ops C Sp Lq l (k + 1) (a.put o.dst v) (next (Sp k) Vs k v) else wpG P md ops C Sp Lq l (k + 1) (a.put o.dst undef) Vs
theorem wpAnyG_lex (hC : ∃ w, C w) {n g : Nat} {Lq : Act → Vals → Prop} (hsel : Region.noSelect ops = true) (hs : Region.sinkB md ops n = true) (hc : Region.chainB md ops n = true) (hn : n < ops.size) :
    ∀ (l : List Oper) (k : Nat) (listed : Array Bool) (a : Act) (Vs : Vals), (∀ j, j < l.length → l[j]? = ops[k + j]?) → k + l.length = n → HeadInv md ops n listed →
    Region.lexHead md ops g l.length k listed = true → wpG P md ops C Sp Lq l k a Vs →
    wpAnyG P md ops C Sp n (fun listed' a' Vs' => Region.seqB md ops g n listed' = true ∧ Lq a' Vs') l.length listed a Vs
  | [], k, listed, a, Vs, _, hk, _, hB, h => by
    have : k = n := by simpa using hk
    subst this
    exact ⟨by simpa [Region.lexHead] using hB, h⟩
  | o :: l, k, listed, a, Vs, hl, hk, inv, hB, h => by
    have h0 : ops[k]? = some o := by simpa using (hl 0 (by simp)).symm
    simp only [List.length_cons, Region.lexHead, Bool.and_eq_true] at hB
    obtain ⟨⟨hr, hf⟩, hB'⟩ := hB
    have hkn : k < n := by simp only [List.length_cons] at hk; omega
    have hr' : k ∈ Region.ready md ops listed := by simpa using hr
    have hg : gOp P md ops C Sp k (wpG P md ops C Sp Lq l (k + 1)) a Vs := by unfold gOp; simp only [h0]; exact h
    exact wpAnyG_first hC h0 (Region.noSelect_spec hsel) hs hc hn hkn (fun listed' a' Vs' hL => seqB_ready hL.1) l.length listed a Vs inv (Region.free_spec h0 hf) hr'
      (gOp_mono (fun a' Vs' h' => wpAnyG_lex hC hsel hs hc hn l (k + 1) _ a' Vs' (fun j hj => by have := hl (j + 1) (by simp; omega); simpa [Nat.add_assoc, Nat.add_comm 1 j] using this) (by simp only [List.length_cons] at hk; omega) (inv.set hr' hkn) hB' h') hg)
end
/-- A region that draws its order: its first n operations in the order of the text, from whatever later world; behind them the rest. -/
theorem wp_region_grow {P : Program} {id : Nat} {Q : Exit → Act → World → Prop} {a : Act} {w : World} {l : List Oper} (n : Nat) (Sp : Nat → OpSpec) (hm : P.follows .mixedOrders = true) (hB : Region.lexTailB .any l.toArray n = true)
    (hst : ∀ i v w w', factOf (Sp i) v w → Below w.heap.size w w' → factOf (Sp i) v w')
    (h : wpG P .any l.toArray (fun w' => Below w.heap.size w w') Sp (fun a' Vs => ∀ w', Below w.heap.size w w' → Facts Sp Vs w' → wpList P l.toArray Q (l.drop n) a' w') (l.take n) 0 a (fun _ => none)) : (Code.region id l.toArray true).wp P Q a w := by
  simp only [Region.lexTailB, Bool.and_eq_true, decide_eq_true_eq] at hB
  obtain ⟨⟨⟨⟨hsel, hn⟩, hs⟩, hc⟩, hlex⟩ := hB
  have hn' : n < l.length := by simpa using hn
  have htl : (l.take n).length = n := by simp; omega
  have hdl : (l.drop n).length = l.toArray.size - n := by simp
  have inv0 : HeadInv .any l.toArray n (Array.replicate l.toArray.size false) :=
    ⟨by simp, fun j oj _ hl => (by rw [getD_replicate_false] at hl; cases hl), fun t _ ht => getD_in (by simpa using ht) (getD_replicate_false _ _)⟩
  have H := wpAnyG_lex (md := .any) (g := l.toArray.size - n) ⟨w, Below.refl _ _⟩ hsel hs hc hn (l.take n) 0 _ a _ (fun j hj => by
    have hj' : j < n := by rw [htl] at hj; exact hj
    simp [hj']) (by simpa using htl) inv0 (by rw [htl]; exact hlex) h
  refine wp_region_any hm ?_
  have := wpAny_of_G (Q' := Q) (g := l.toArray.size - n) hst (fun w1 w2 h1 h2 => h1.trans (h2.mono h1.size)) (fun listed a' Vs w' hC hF hL => by
    have := wpAny_of_seq (md := .any) (Q' := Q) (l.drop n) n listed a' w' (fun j => by simp [List.getElem?_drop]) (by rw [hdl]; exact hL.1) (hL.2 w' hC hF)
    rwa [hdl] at this) _ _ _ _ ({ w with drawn := w.drawn + 1 } : World) (Below.refl w.heap.size w).drew (fun i v h => by cases h) H
  rw [htl, show n + (l.toArray.size - n) = l.toArray.size by omega] at this
  exact this
section
variable {P : Program} {ops : Array Oper} {md : Region.Mode} {C : World → Prop} {Sp : Nat → OpSpec} {Lq : Act → Vals → Prop} {o : Oper} {l : List Oper} {k : Nat} {a : Act} {Vs : Vals}
@[go_sem] theorem DoesR_value (w w' : World) (Φ : Value → World → Prop) (u : Value) : DoesR P w Φ (.ok (.value u) w') = Φ u w' := rfl
@[go_sem] theorem DoesR_enter (w w' : World) (Φ : Value → World → Prop) (f : FuncId) (args : Array Value) : DoesR P w Φ (.ok (.enter f args) w') = (w' = w ∧ Calls P f args w (CallPost Φ)) := rfl
@[go_sem] theorem PureR_value (w w' : World) (v u : Value) : PureR w v (.ok (.value u) w') = (w' = w ∧ u = v) := rfl
theorem wpG_nil (h : Lq a Vs) : wpG P md ops C Sp Lq [] k a Vs := h
theorem wpG_pure (hw : Region.wanted o (yielded ops a.tmps) = true) (hs : Sp k = .pure) (v : Value) (h : ∀ w, C w → PureAt P o a w v) (hn : wpG P md ops C Sp Lq l (k + 1) (a.put o.dst v) Vs) : wpG P md ops C Sp Lq (o :: l) k a Vs := by
  unfold wpG
  rw [if_pos hw]
  refine ⟨fun u => u = v, by unfold Ob; rw [hs]; exact ⟨v, rfl, h⟩, fun u hu => ?_⟩
  subst hu
  rw [hs]
  exact hn
theorem wpG_const (hw : Region.wanted o (yielded ops a.tmps) = true) {v : Value} (hs : Sp k = .const v) (h : ∀ w, C w → FactsAt md ops Sp k Vs w → Does P o a w (IsPost v w)) (hn : wpG P md ops C Sp Lq l (k + 1) (a.put o.dst v) Vs) : wpG P md ops C Sp Lq (o :: l) k a Vs := by
  unfold wpG
  rw [if_pos hw]
  refine ⟨fun u => u = v, by unfold Ob; rw [hs]; exact ⟨rfl, h⟩, fun u hu => ?_⟩
  subst hu
  rw [hs]
  exact hn
theorem wpG_rel (hw : Region.wanted o (yielded ops a.tmps) = true) {R : Value → World → Prop} (hs : Sp k = .rel R) (h : ∀ w, C w → FactsAt md ops Sp k Vs w → Does P o a w (RelPost R w)) (hn : ∀ v, wpG P md ops C Sp Lq l (k + 1) (a.put o.dst v) (upd Vs k v)) : wpG P md ops C Sp Lq (o :: l) k a Vs := by
  unfold wpG
  rw [if_pos hw]
  refine ⟨fun _ => True, by unfold Ob; rw [hs]; exact ⟨rfl, h⟩, fun u _ => ?_⟩
  rw [hs]
  exact hn u
end
/-- A call that makes something, inside such a region. -/
def Made (w0 : World) (F : Fz) (R : Fz → Value → Prop) (v : Value) (w : World) : Prop := ∃ F', Gr w0 F w F' ∧ R F' v
theorem Made.stable {w0 : World} {F : Fz} {R : Fz → Value → Prop} {v : Value} {w w' : World} (h : Made w0 F R v w) (hb : Below w.heap.size w w') : Made w0 F R v w' := by
  obtain ⟨F', g, r⟩ := h
  exact ⟨F', g.trans (Gr.of_below g.sat hb), r⟩
theorem call_tells {P : Program} {f : FuncId} {args : Array Value} {w : World} {v : Value} (h : Calls P f args w (Tells w v)) : Calls P f args w (CallPost (IsPost v w)) :=
  h.mono fun _ _ hh => ⟨v, hh.1, rfl, hh.2⟩
/-- The specifications of a region's calls, by the numbers of the operations. -/
inductive Mark where
  | is (v : Value)
  | made (R : Fz → Value → Prop)
  | rel (R : Value → World → Prop) (st : ∀ v w w', R v w → Below w.heap.size w w' → R v w')
def specOf (W : World) (F : Fz) (L : List (Nat × Mark)) (i : Nat) : OpSpec :=
  match L.lookup i with
  | some (.is v) => .const v
  | some (.made R) => .rel (Made W F R)
  | some (.rel R _) => .rel R
  | none => .pure
theorem specOf_stable {W : World} {F : Fz} {L : List (Nat × Mark)} : ∀ i v w w', factOf (specOf W F L i) v w → Below w.heap.size w w' → factOf (specOf W F L i) v w' := by
  intro i v w w' h hb
  unfold specOf at *
  split
  · trivial
  · rename_i R e
    simp only [e] at h
    exact Made.stable h hb
  · rename_i R st e
    simp only [e] at h
    exact st _ _ _ h hb
  · trivial
theorem wp_region_made {P : Program} {id : Nat} {Q : Exit → Act → World → Prop} {a : Act} {W : World} {l : List Oper} (F : Fz) (n : Nat) (L : List (Nat × Mark)) (hm : P.follows .mixedOrders = true) (hB : Region.lexTailB .any l.toArray n = true)
    (h : wpG P .any l.toArray (fun w' => Below W.heap.size W w') (specOf W F L) (fun a' Vs => ∀ w', Below W.heap.size W w' → Facts (specOf W F L) Vs w' → wpList P l.toArray Q (l.drop n) a' w') (l.take n) 0 a (fun _ => none)) : (Code.region id l.toArray true).wp P Q a W :=
  wp_region_grow n (specOf W F L) hm hB specOf_stable h
/-- What is known of operation i's value at the end. -/
theorem Facts.get {W : World} {F : Fz} {L : List (Nat × Mark)} {Vs : Vals} {w : World} (h : Facts (specOf W F L) Vs w) (i : Nat) {v : Value} {R : Fz → Value → Prop} (hv : Vs i = some v) (hL : specOf W F L i = .rel (Made W F R)) : ∃ F', Gr W F w F' ∧ R F' v := by
  have := h i v hv
  rw [hL] at this
  exact this
theorem FactsAt.get {md : Region.Mode} {ops : Array Oper} {W : World} {F : Fz} {L : List (Nat × Mark)} {Vs : Vals} {w : World} {j : Nat} (h : FactsAt md ops (specOf W F L) j Vs w) (i : Nat) {v : Value} {R : Fz → Value → Prop} (ha : ancB md ops ops.size j i = true) (hv : Vs i = some v) (hL : specOf W F L i = .rel (Made W F R)) : ∃ F', Gr W F w F' ∧ R F' v := by
  have := h i v ha hv
  rw [hL] at this
  exact this
end Go.Proofs.YtajmjolgphadoaaDoor
namespace Go.Proofs.YtajmjolgphadoaaDoor
open Go.RowKit
set_option maxRecDepth 100000
/-- A pair by value. -/
def PrV (F : Fz) (v : Value) (k x : List UInt8) : Prop := ∃ a b, v = .agg #[a, b] ∧ Bs F a k ∧ Bs F b x
theorem PrV.mono {F F' : Fz} {v : Value} {k x : List UInt8} (h : PrV F v k x) (hl : Le F F') : PrV F' v k x := by
  obtain ⟨a, b, h1, h2, h3⟩ := h
  exact ⟨a, b, h1, h2.mono hl, h3.mono hl⟩
theorem tells_bool {P : Program} {k : FuncId} {vs : Array Value} {w : World} {b c : Bool} (h : Calls P k vs w (Tells w (.bool b))) (e : b = c) : Calls P k vs w (Tells w (.bool c)) := e ▸ h
end Go.Proofs.YtajmjolgphadoaaDoor
namespace Go.Proofs.YtajmjolgphadoaaDoor
set_option maxRecDepth 100000
theorem joined_mk {P : Program} {f : FuncId} {fn : Func} {s : ChangeSpec} {c : OpenClaim}
    (h1 : (c.wf (OpenSpec.ofChange s)) = true)
    (h2 : (laidOutB P) = true)
    (h3 : (mapsRowed P) = true)
    (h4 : (fn.params.all (P.readableRec ·)) = true)
    (h5 : (namedTie P c.named s.vars) = true)
    (h6 : ((c.stops == [])) = true)
    (h7 : ((P.stops == [])) = true)
    (h8 : ((c.knobs == [])) = true)
    (h9 : ((P.stopKnobs == [])) = true)
    (h10 : ((c.inPlace == P.inPlace f)) = true)
    (h11 : ((c.unfollowed == P.unfollowed f)) = true)
    (h12 : ((c.recurses == P.recurses f)) = true)
    (h13 : ((c.named == P.varsNamed f)) = true)
    (h14 : ((c.maps == (fn.params.toList ++ s.plain.varTypes P).any (P.mapsRec ·))) = true)
    (h15 : ((c.ifaces == (fn.params.toList ++ s.plain.varTypes P).any (P.ifacesRec ·))) = true)
    (h16 : ((c.mapsOut == P.mapsAmong fn.resultTypes.toList)) = true)
    (h17 : ((c.loops == (fn.params.toList ++ s.plain.varTypes P).any (P.loopsFrom ·))) = true)
    (h18 : ((c.wideKeys == (fn.params.toList ++ s.plain.varTypes P ++ fn.resultTypes.toList).any (P.wideKeysFrom ·))) = true)
    (h19 : (s.vars.all (P.varReadable ·)) = true)
    (h20 : (fn.resultTypes.all (fun t => P.readableRec t && decide (t < P.types.size))) = true)
    (h21 : ((c.ifacesOut == fn.resultTypes.toList.any (P.ifacesRec ·))) = true)
    (h22 : ((c.loopsOut == fn.resultTypes.toList.any (P.loopsFrom ·))) = true)
    (h23 : ((c.plainKeys == P.plainKeys)) = true)
    (h24 : (c.shortTexts.isNone) = true)
    (h25 : (P.stopsHeard) = true)
    (h26 : (P.mayEnter) = true)
    (h27 : ((c.lifted == P.liftsFinal)) = true)
    (h28 : ((P.make == some c.make)) = true)
    (h29 : ((c.kinds == (if c.domain.isEmpty then [] else fn.params.toList.map fun t => match P.underlying t with | some (.int k) => some k | _ => none))) = true)
    (h30 : ((c.pinned == c.pinnedBy)) = true)
    (h31 : ((c.veiled == (fn.params.toList ++ s.plain.varTypes P ++ fn.resultTypes.toList).any (P.veiledRec ·))) = true)
    (h32 : (c.veiledFits P fn.params.toList (fn.params.toList ++ s.plain.varTypes P ++ fn.resultTypes.toList)) = true)
    : joinedFacts P f fn s c = true := by
  unfold joinedFacts
  simp only [Bool.and_eq_true]
  exact ⟨⟨⟨⟨⟨⟨⟨⟨⟨⟨⟨⟨⟨⟨⟨⟨⟨⟨⟨⟨⟨⟨⟨⟨⟨⟨⟨⟨⟨⟨⟨h1, h2⟩, h3⟩, h4⟩, h5⟩, h6⟩, h7⟩, h8⟩, h9⟩, h10⟩, h11⟩, h12⟩, h13⟩, h14⟩, h15⟩, h16⟩, h17⟩, h18⟩, h19⟩, h20⟩, h21⟩, h22⟩, h23⟩, h24⟩, h25⟩, h26⟩, h27⟩, h28⟩, h29⟩, h30⟩, h31⟩, h32⟩

theorem wordsSigns_word : ∀ (w r : List Char), (w.all fun c => c != Char.ofNat 32) = true → wordsSigns (w ++ Char.ofNat 32 :: r) = w :: wordsSigns r
  | [], _, _ => rfl
  | c :: w, r, h => by
    simp only [List.all_cons, Bool.and_eq_true] at h
    have ih := wordsSigns_word w r h.2
    have hc : c ≠ Char.ofNat 32 := by simpa using h.1
    rw [List.cons_append, wordsSigns, ih]
    intro e
    exact hc (e.trans (by decide))
/-- The head: the word of a harness, its sum, 'cut', and names that nobody reads. -/
theorem words_of {P : Program} {S D : List Nat} (h : P.initOrder = String.ofList (([104, 97, 114, 110, 101, 115, 115].map Char.ofNat) ++ Char.ofNat 32 :: (S.map Char.ofNat ++ Char.ofNat 32 :: ([99, 117, 116].map Char.ofNat ++ Char.ofNat 32 :: D.map Char.ofNat))))
    (hs : isSumSigns (S.map Char.ofNat) = true) (hn : ((S.map Char.ofNat).all fun c => c != Char.ofNat 32) = true) : ∃ R, behindMainWord (wordsSigns P.initOrder.toList) = [99, 117, 116].map Char.ofNat :: R := by
  rw [h, String.toList_ofList, wordsSigns_word _ _ (by decide), wordsSigns_word _ _ hn, wordsSigns_word _ _ (by decide)]
  refine ⟨wordsSigns (D.map Char.ofNat), ?_⟩
  generalize wordsSigns (D.map Char.ofNat) = R
  show (if _ then _ else _) = _
  rw [hs, if_pos (by decide +kernel)]
theorem strip_cut (R : List (List Char)) : stripLifts liftWords ([99, 117, 116].map Char.ofNat :: R) = ([], [99, 117, 116].map Char.ofNat :: R) := by kernel_rfl
theorem mayEnter_of {P : Program} (hw : ∃ R, behindMainWord (wordsSigns P.initOrder.toList) = [99, 117, 116].map Char.ofNat :: R) (h1 : P.laysLater = false) (h2 : P.bearsReflect = false) (h3 : P.doorFits [] = true) : P.mayEnter = true := by
  obtain ⟨R, hR⟩ := hw
  unfold Program.mayEnter
  rw [hR]
  simp only [strip_cut, h1, h2, h3]
  simp only [List.head?_cons]
  rw [show (some (List.map Char.ofNat [99, 117, 116]) == some "cut".toList) = true from by decide +kernel]
  simp
theorem headLifts_of {P : Program} (hw : ∃ R, behindMainWord (wordsSigns P.initOrder.toList) = [99, 117, 116].map Char.ofNat :: R) : P.headLifts = [] := by
  obtain ⟨R, hR⟩ := hw
  unfold Program.headLifts
  rw [hR]
  simp only [strip_cut]
  simp
theorem liftsFinal_of {P : Program} (hw : ∃ R, behindMainWord (wordsSigns P.initOrder.toList) = [99, 117, 116].map Char.ofNat :: R) : P.liftsFinal = false := by
  have hl := headLifts_of hw
  obtain ⟨R, hR⟩ := hw
  unfold Program.liftsFinal
  rw [hl]
  simp only [hR, List.head?_cons]
  rw [show (some (List.map Char.ofNat [99, 117, 116]) == some "carried".toList) = false from by decide +kernel]
  simp
theorem make_of {P : Program} (hw : ∃ R, behindMainWord (wordsSigns P.initOrder.toList) = [99, 117, 116].map Char.ofNat :: R) : P.make = some .cut := by
  obtain ⟨R, hR⟩ := hw
  unfold Program.make
  rw [hR]
  dsimp only
  rw [if_neg (by decide +kernel), if_pos (by rw [show (List.map Char.ofNat [99, 117, 116] == "cut".toList) = true from by decide +kernel]; rfl)]
theorem seat_head : Tryd.pinned.checked.prog.initOrder = String.ofList (([104, 97, 114, 110, 101, 115, 115].map Char.ofNat) ++ Char.ofNat 32 :: (([102, 49, 57, 97, 99, 101, 56, 51, 98, 51, 49, 98, 100, 99, 52, 100, 99, 101, 100, 99, 98, 100, 50, 97, 55, 102, 53, 98, 52, 100, 57, 101, 53, 54, 56, 48, 102, 52, 51, 48, 57, 97, 97, 52, 102, 51, 99, 100, 53, 53, 55, 53, 101, 52, 51, 50, 98, 97, 101, 101, 53, 56, 102, 52] : List Nat).map Char.ofNat ++ Char.ofNat 32 :: ([99, 117, 116].map Char.ofNat ++ Char.ofNat 32 :: ([97, 116, 32, 99, 97, 110, 111, 112, 121, 47, 99, 97, 110, 111, 112, 121, 107, 101, 101, 112, 46, 72, 105, 115, 116, 111, 114, 121, 79, 114, 100, 101, 114, 32, 99, 97, 110, 111, 112, 121, 47, 99, 97, 110, 111, 112, 121, 107, 101, 101, 112, 46, 76, 105, 110, 101, 115, 66, 97, 99, 107, 32, 99, 97, 110, 111, 112, 121, 47, 99, 97, 110, 111, 112, 121, 107, 101, 101, 112, 46, 76, 105, 110, 101, 115, 70, 105, 120, 101, 100, 32, 99, 97, 110, 111, 112, 121, 47, 99, 97, 110, 111, 112, 121, 107, 101, 101, 112, 46, 76, 105, 110, 101, 115, 66, 97, 100] : List Nat).map Char.ofNat))) := by
  show Tryd.progTables.initOrder = _
  unfold Tryd.progTables
  dsimp only
  kernel_rfl
theorem seat_words : ∃ R, behindMainWord (wordsSigns Tryd.pinned.checked.prog.initOrder.toList) = [99, 117, 116].map Char.ofNat :: R := words_of seat_head (by decide +kernel) (by decide +kernel)
theorem seat_laysLater : Tryd.pinned.checked.prog.laysLater = false := by kernel_rfl
theorem seat_bearsReflect : Tryd.pinned.checked.prog.bearsReflect = false := by kernel_rfl
theorem seat_doorFits : Tryd.pinned.checked.prog.doorFits [] = true := by kernel_rfl
theorem seat_mayEnter : Tryd.pinned.checked.prog.mayEnter = true := mayEnter_of seat_words seat_laysLater seat_bearsReflect seat_doorFits
theorem seat_liftsFinal : Tryd.pinned.checked.prog.liftsFinal = false := liftsFinal_of seat_words
theorem seat_make : Tryd.pinned.checked.prog.make = some .cut := make_of seat_words
theorem seat_laidOut : laidOutB Tryd.pinned.checked.prog = true := by kernel_rfl
theorem seat_mapsRowed : mapsRowed Tryd.pinned.checked.prog = true := by kernel_rfl
theorem seat_stops : (Tryd.pinned.checked.prog.stops == []) = true := by kernel_rfl
theorem seat_stopKnobs : (Tryd.pinned.checked.prog.stopKnobs == []) = true := by kernel_rfl
theorem seat_stopsHeard : Tryd.pinned.checked.prog.stopsHeard = true := by kernel_rfl
end Go.Proofs.YtajmjolgphadoaaDoor
namespace Go.Proofs.YtajmjolgphadoaaDoor
open Go.RowKit

abbrev By := List UInt8
theorem less_trans : ∀ a b c : By, Op.bytesLess a b = true → Op.bytesLess b c = true → Op.bytesLess a c = true
  | _, _, [], _, h => by cases ‹By› <;> cases h
  | [], _, _ :: _, _, _ => by simp [Op.bytesLess]
  | _ :: _, [], _ :: _, h, _ => by cases h
  | x :: a, y :: b, z :: c, h, k => by
    simp only [Op.bytesLess, Bool.or_eq_true, decide_eq_true_eq, Bool.and_eq_true, beq_iff_eq] at *
    rcases h with h | ⟨rfl, h⟩
    · rcases k with k | ⟨rfl, k⟩
      · left
        have h1 := UInt8.lt_iff_toNat_lt.1 h; have h2 := UInt8.lt_iff_toNat_lt.1 k
        exact UInt8.lt_iff_toNat_lt.2 (by omega)
      · exact .inl h
    · rcases k with k | ⟨rfl, k⟩
      · exact .inl k
      · exact .inr ⟨rfl, less_trans a b c h k⟩
theorem less_total : ∀ a b : By, Op.bytesLess a b = false → Op.bytesLess b a = false → a = b
  | [], [], _, _ => rfl
  | [], _ :: _, h, _ => by simp [Op.bytesLess] at h
  | _ :: _, [], _, h => by simp [Op.bytesLess] at h
  | x :: a, y :: b, h, k => by
    simp only [Op.bytesLess, Bool.or_eq_false_iff, decide_eq_false_iff_not, Bool.and_eq_false_iff, beq_eq_false_iff_ne] at h k
    have hxy : x = y := by
      apply UInt8.toNat_inj.1
      have h1 : ¬ x.toNat < y.toNat := fun q => h.1 (UInt8.lt_iff_toNat_lt.2 q)
      have h2 : ¬ y.toNat < x.toNat := fun q => k.1 (UInt8.lt_iff_toNat_lt.2 q)
      omega
    subst hxy
    rw [less_total a b (h.2.resolve_left (fun q => q rfl)) (k.2.resolve_left (fun q => q rfl))]
theorem less_ne {a b : By} (h : Op.bytesLess a b = true) : a ≠ b := by rintro rfl; rw [less_irrefl] at h; cases h
abbrev Lt (a b : By) : Prop := Op.bytesLess a b = true
/-! Lists sorted by a key. -/
section
variable {β : Type} (f : β → By)
abbrev RiseBy (l : List β) : Prop := l.Pairwise fun p q => Lt (f p) (f q)
def posBy (l : List β) (k : By) : Nat := (l.takeWhile fun p => Op.bytesLess (f p) k).length
def hasBy (l : List β) (k : By) : Bool := l.any fun p => f p == k
variable {f}
theorem posBy_cons (p : β) (l : List β) (k : By) : posBy f (p :: l) k = if Op.bytesLess (f p) k then posBy f l k + 1 else 0 := by
  unfold posBy
  rw [List.takeWhile_cons]
  split <;> simp
/-- The place that a search by halves finds: what stands ahead is less, what is behind is not. -/
theorem posBy_unique {l : List β} {k : By} {n : Nat} (hn : n ≤ l.length) (h1 : ∀ (i : Nat) (h : i < l.length), i < n → Lt (f l[i]) k) (h2 : ∀ (i : Nat) (h : i < l.length), n ≤ i → ¬ Lt (f l[i]) k) : posBy f l k = n := by
  induction l generalizing n with
  | nil => simp at hn; subst hn; rfl
  | cons p l ih =>
    rw [posBy_cons]
    cases n with
    | zero =>
      have := h2 0 (by simp) (by omega)
      rw [if_neg (by simpa using this)]
    | succ n =>
      rw [if_pos (show Lt (f p) k from h1 0 (by simp) (by omega))]
      rw [ih (n := n) (by simpa using hn) (fun i h hi => by have := h1 (i + 1) (by simpa using h) (by omega); simpa using this) (fun i h hi => by have := h2 (i + 1) (by simpa using h) (by omega); simpa using this)]
theorem hasBy_iff {l : List β} {k : By} : hasBy f l k = true ↔ ∃ p ∈ l, f p = k := by simp [hasBy]
theorem hasBy_at {l : List β} {k : By} (hr : RiseBy f l) : hasBy f l k = true ↔ ∃ h : posBy f l k < l.length, f (l[posBy f l k]) = k := by
  rw [hasBy_iff]
  constructor
  · rintro ⟨p, hp, hk⟩
    obtain ⟨i, hi, rfl⟩ := List.mem_iff_getElem.1 hp
    have e : posBy f l k = i := posBy_unique (Nat.le_of_lt hi) (fun j hj hji => by
      rw [← hk]; exact List.pairwise_iff_getElem.1 hr j i hj hi hji) (fun j hj hij => by
      rw [← hk]
      intro h
      rcases Nat.lt_or_eq_of_le hij with h1 | h1
      · exact absurd (less_trans _ _ _ h (List.pairwise_iff_getElem.1 hr i j hi hj h1)) (by rw [less_irrefl]; simp)
      · subst h1; rw [Lt, less_irrefl] at h; cases h)
    subst e
    exact ⟨hi, hk⟩
  · rintro ⟨h, hk⟩
    exact ⟨_, List.getElem_mem h, hk⟩
end
section
variable {α : Type}
/-- A pair, a tree. -/
abbrev Rise (l : List (By × α)) : Prop := RiseBy (·.1) l
abbrev posT (l : List (By × α)) (k : By) : Nat := posBy (·.1) l k
abbrev hasT (l : List (By × α)) (k : By) : Bool := hasBy (·.1) l k
def getT (l : List (By × α)) (k : By) : Option α := (l.find? fun p => p.1 == k).map (·.2)
def putT (l : List (By × α)) (k : By) (v : α) : List (By × α) := if hasT l k then l.set (posT l k) (k, v) else l.take (posT l k) ++ (k, v) :: l.drop (posT l k)
def delT (l : List (By × α)) (k : By) : List (By × α) := if hasT l k then l.take (posT l k) ++ l.drop (posT l k + 1) else l
def rangeT (l : List (By × α)) (a b : By) : List (By × α) := l.filter fun p => !Op.bytesLess p.1 a && !Op.bytesLess b p.1
end
abbrev Pr := By × By
def PairOk (p : Pr) : Prop := 1 ≤ p.1.length ∧ p.1.length ≤ 16 ∧ p.2.length ≤ 32
structure TreeOk (n : Nat) (l : List Pr) : Prop where
  len : l.length ≤ n
  ok : ∀ p ∈ l, PairOk p
  rise : Rise l
section
variable {α : Type}
def insT (k : By) (v : α) : List (By × α) → List (By × α)
  | [] => [(k, v)]
  | p :: l => if Op.bytesLess p.1 k then p :: insT k v l else if p.1 = k then (k, v) :: l else (k, v) :: p :: l
theorem hasT_cons_lt {p : By × α} {l : List (By × α)} {k : By} (h : Lt p.1 k) : hasT (p :: l) k = hasT l k := by
  have := less_ne h
  simp [hasT, hasBy, this]
theorem hasT_cons_gt {p : By × α} {l : List (By × α)} {k : By} (hr : Rise (p :: l)) (h : ¬ Lt p.1 k) (hne : p.1 ≠ k) : hasT (p :: l) k = false := by
  cases hh : hasT (p :: l) k with
  | false => rfl
  | true =>
    obtain ⟨h1, h2⟩ := (hasBy_at hr).1 hh
    have h0 : posBy (·.1) (p :: l) k = 0 := by rw [posBy_cons, if_neg h]
    simp only [h0, List.getElem_cons_zero] at h2
    exact absurd h2 hne
theorem putT_ins (k : By) (v : α) : ∀ {l : List (By × α)}, Rise l → putT l k v = insT k v l
  | [], _ => by simp [putT, hasT, hasBy, insT]
  | p :: l, hr => by
    have hr' := (List.pairwise_cons.1 hr).2
    unfold insT
    split
    · rename_i h
      rw [← putT_ins k v hr']
      have hp : posT (p :: l) k = posT l k + 1 := by rw [posT, posBy_cons, if_pos h]
      unfold putT
      rw [hasT_cons_lt h, hp]
      split <;> simp
    · rename_i h
      have hp : posT (p :: l) k = 0 := by rw [posT, posBy_cons, if_neg h]
      split
      · rename_i he
        have : hasT (p :: l) k = true := hasBy_iff.2 ⟨p, by simp, he⟩
        unfold putT
        rw [if_pos this, hp]
        simp
      · rename_i he
        unfold putT
        rw [hasT_cons_gt hr h he, hp]
        simp
theorem mem_insT {k : By} {v : α} {q : By × α} : ∀ {l : List (By × α)}, q ∈ insT k v l → q = (k, v) ∨ q ∈ l
  | [], h => by simp [insT] at h; exact .inl h
  | p :: l, h => by
    unfold insT at h
    split at h
    · rcases List.mem_cons.1 h with rfl | h
      · exact .inr (by simp)
      · rcases mem_insT h with h | h
        · exact .inl h
        · exact .inr (List.mem_cons_of_mem _ h)
    · split at h <;> simp only [List.mem_cons] at h ⊢ <;> rcases h with h | h <;> simp_all
theorem rise_insT {k : By} {v : α} : ∀ {l : List (By × α)}, Rise l → Rise (insT k v l)
  | [], _ => by simp [insT, Rise, RiseBy]
  | p :: l, hr => by
    obtain ⟨h1, h2⟩ := List.pairwise_cons.1 hr
    unfold insT
    split
    · rename_i h
      refine List.pairwise_cons.2 ⟨fun q hq => ?_, rise_insT h2⟩
      rcases mem_insT hq with rfl | hq
      · exact h
      · exact h1 q hq
    · rename_i h
      split
      · rename_i he
        refine List.pairwise_cons.2 ⟨fun q hq => ?_, h2⟩
        have : Lt p.1 q.1 := h1 q hq
        rw [he] at this
        exact this
      · rename_i he
        have hk : Lt k p.1 := by
          cases hx : Op.bytesLess k p.1 with
          | true => exact hx
          | false => exact absurd (less_total _ _ (by simpa using h) hx) he
        refine List.pairwise_cons.2 ⟨fun q hq => ?_, hr⟩
        rcases List.mem_cons.1 hq with rfl | hq
        · exact hk
        · exact less_trans _ _ _ hk (h1 q hq)
theorem rise_putT {l : List (By × α)} (hr : Rise l) (k : By) (v : α) : Rise (putT l k v) := by rw [putT_ins k v hr]; exact rise_insT hr
end
theorem TreeOk.put {n m : Nat} {l : List Pr} {k v : By} (h : TreeOk n l) (hp : PairOk (k, v)) (hm : (putT l k v).length ≤ m) : TreeOk m (putT l k v) := by
  refine ⟨hm, fun p hp' => ?_, rise_putT h.rise k v⟩
  rw [putT_ins k v h.rise] at hp'
  rcases mem_insT hp' with rfl | h'
  · exact hp
  · exact h.ok p h'
theorem TreeOk.mono {n m : Nat} {l : List Pr} (h : TreeOk n l) (hm : n ≤ m) : TreeOk m l := ⟨Nat.le_trans h.len hm, h.ok, h.rise⟩
theorem TreeOk.nil (n : Nat) : TreeOk n [] := ⟨Nat.zero_le _, by simp, by simp [Rise, RiseBy]⟩
section
variable {α : Type}
end
end Go.Proofs.YtajmjolgphadoaaDoor
namespace Go.Proofs.YtajmjolgphadoaaDoor
end Go.Proofs.YtajmjolgphadoaaDoor
namespace Go.Proofs.YtajmjolgphadoaaDoor
open Go.RowKit

abbrev Forest := List (By × List Pr)
def NameOk (n : By) : Prop := 1 ≤ n.length ∧ n.length ≤ 8
structure ForestOk (m : Nat) (f : Forest) : Prop where
  len : f.length ≤ 8
  name : ∀ t ∈ f, NameOk t.1
  some : ∀ t ∈ f, t.2 ≠ []
  tree : ∀ t ∈ f, TreeOk m t.2
  rise : Rise f
def treeF (f : Forest) (n : By) : List Pr := (getT f n).getD []
structure Wr where
  name : By
  key : By
  gone : Bool
  value : By
structure WrOk (w : Wr) : Prop where
  name : NameOk w.name
  key1 : 1 ≤ w.key.length
  key2 : w.key.length ≤ 16
  value : w.value.length ≤ 32
  gone : w.gone = true → w.value = []
def nextT (w : Wr) (old : List Pr) : List Pr := if w.gone then delT old w.key else putT old w.key w.value
/-- A write: none, if there is no room. -/
def writeF (f : Forest) (w : Wr) : Option Forest :=
  let next := nextT w (treeF f w.name)
  if w.gone = false ∧ 60 < next.length then none
  else if next = [] then some (delT f w.name)
  else if 8 < (putT f w.name next).length then none
  else some (putT f w.name next)
def applyF (f : Forest) : List Wr → Option Forest
  | [] => some f
  | w :: ws => match writeF f w with
    | some g => applyF g ws
    | none => none
theorem ForestOk.nil (m : Nat) : ForestOk m [] := ⟨by simp, by simp, by simp, by simp, by simp [Rise, RiseBy]⟩
theorem ForestOk.mono {m n : Nat} {f : Forest} (h : ForestOk m f) (hm : m ≤ n) : ForestOk n f := ⟨h.len, h.name, h.some, fun t ht => (h.tree t ht).mono hm, h.rise⟩
end Go.Proofs.YtajmjolgphadoaaDoor
namespace Go.Proofs.YtajmjolgphadoaaDoor
open Go.RowKit

section
variable {α : Type}
end
end Go.Proofs.YtajmjolgphadoaaDoor
namespace Go.Proofs.YtajmjolgphadoaaDoor
open Go.RowKit

structure Rd where
  name : By
  key : By
  wide : Bool
  last : By
deriving DecidableEq
structure RdOk (r : Rd) : Prop where
  name : NameOk r.name
  key : 1 ≤ r.key.length ∧ r.key.length ≤ 16
  last : if r.wide then 1 ≤ r.last.length ∧ r.last.length ≤ 16 else r.last = []
structure Tx where
  start : Int
  reads : List Rd
  writes : List Wr
def samePl (a b : Wr) : Bool := a.name == b.name && a.key == b.key
structure TxOk (t : Tx) : Prop where
  start : 0 ≤ t.start ∧ t.start ≤ 1048576
  nr : t.reads.length ≤ 20
  nw : t.writes.length ≤ 10
  reads : ∀ r ∈ t.reads, RdOk r
  rdiff : t.reads.Pairwise (· ≠ ·)
  writes : ∀ w ∈ t.writes, WrOk w
  wdiff : t.writes.Pairwise fun a b => samePl a b = false
theorem rise_rangeT {α : Type} {l : List (By × α)} (hr : Rise l) (a b : By) : Rise (rangeT l a b) := List.Pairwise.filter _ hr
theorem TreeOk.range {n : Nat} {l : List Pr} (h : TreeOk n l) (a b : By) : TreeOk n (rangeT l a b) :=
  ⟨Nat.le_trans (List.length_filter_le _ _) h.len, fun p hp => h.ok p (List.mem_filter.1 hp).1, rise_rangeT h.rise a b⟩
end Go.Proofs.YtajmjolgphadoaaDoor
namespace Go.Proofs.YtajmjolgphadoaaDoor
open Go.RowKit

structure KeysOk (l : List Pr) : Prop where
  key : ∀ p ∈ l, 1 ≤ p.1.length ∧ p.1.length ≤ 16
  rise : Rise l
theorem KeysOk.sub {l m : List Pr} (h : KeysOk l) (hs : m.Sublist l) : KeysOk m := ⟨fun p hp => h.key p (hs.subset hp), h.rise.sublist hs⟩
end Go.Proofs.YtajmjolgphadoaaDoor
namespace Go.Proofs.YtajmjolgphadoaaDoor
open Go.RowKit

structure Stp where
  bit : Nat
  right : Bool
  other : By
/-- A proof. -/
structure Prf where
  empty : Bool
  steps : List Stp
  pair : Pr
end Go.Proofs.YtajmjolgphadoaaDoor
namespace Go.Proofs.YtajmjolgphadoaaDoor
open Go.RowKit

structure Rr where
  rest : By
  short : Bool
/-- A reader: what it reads of a beginning it reads of the whole; once short it stays so. -/
structure Reads {α : Type} (f : Rr → α × Rr) : Prop where
  more : ∀ b t, (f ⟨b, false⟩).2.short = false → f ⟨b ++ t, false⟩ = ((f ⟨b, false⟩).1, ⟨(f ⟨b, false⟩).2.rest ++ t, false⟩)
  short : ∀ r, r.short = true → (f r).2.short = true
theorem Reads.map {α β : Type} {f : Rr → α × Rr} (hf : Reads f) (g : α → β) : Reads fun r => (g (f r).1, (f r).2) := by
  refine ⟨fun b t h => ?_, fun r h => hf.short r h⟩
  rw [hf.more b t h]
set_option linter.unusedVariables false
/-! What was written is read. -/
/-! What is read was written. -/
end Go.Proofs.YtajmjolgphadoaaDoor
namespace Go.Proofs.YtajmjolgphadoaaDoor
open Go.RowKit

structure Cm where
  turn : Nat
  writes : List Wr
def foldC (f : Forest) : List Cm → Option Forest
  | [] => some f
  | c :: cs => match applyF f c.writes with
    | some g => foldC g cs
    | none => none
def sizeC (cs : List Cm) : Nat := (cs.map fun c => c.writes.length).sum
structure CmOk (c : Cm) : Prop where
  turn : 1 ≤ c.turn ∧ c.turn ≤ 1048576
  some : 1 ≤ c.writes.length ∧ c.writes.length ≤ 10
  ok : ∀ w ∈ c.writes, WrOk w
/-- Commits turn by turn, each of which fits; m writes at most in all. -/
structure HistOk (m : Nat) (cs : List Cm) : Prop where
  turn : ∀ (i : Nat) (h : i < cs.length), cs[i].turn = i + 1
  ok : ∀ c ∈ cs, CmOk c
  size : sizeC cs ≤ m
  fits : ∃ f, foldC [] cs = some f
theorem foldC_append (f : Forest) (a b : List Cm) : foldC f (a ++ b) = match foldC f a with | some g => foldC g b | none => none := by
  induction a generalizing f with
  | nil => rfl
  | cons c a ih =>
    simp only [List.cons_append, foldC]
    cases applyF f c.writes with
    | none => rfl
    | some g => exact ih g
theorem sizeC_append (a b : List Cm) : sizeC (a ++ b) = sizeC a + sizeC b := by simp [sizeC]
/-- The forest behind so many commits. -/
def stateC (cs : List Cm) (k : Nat) : Forest := (foldC [] (cs.take k)).getD []
theorem state_some {m : Nat} {cs : List Cm} (h : HistOk m cs) (k : Nat) : foldC [] (cs.take k) = some (stateC cs k) := by
  obtain ⟨f, hf⟩ := h.fits
  rw [← List.take_append_drop k cs, foldC_append] at hf
  unfold stateC
  cases e : foldC [] (cs.take k) with
  | none => rw [e] at hf; cases hf
  | some g => rfl
theorem HistOk.take {m : Nat} {cs : List Cm} (h : HistOk m cs) (k : Nat) : HistOk m (cs.take k) := by
  refine ⟨fun i hi => by rw [List.getElem_take]; exact h.turn i _, fun c hc => h.ok c (List.mem_of_mem_take hc), ?_, ⟨_, state_some h k⟩⟩
  have h2 := h.size
  rw [← List.take_append_drop k cs, sizeC_append] at h2
  omega
theorem HistOk.nil (m : Nat) : HistOk m [] := ⟨by simp, by simp, by simp [sizeC], ⟨[], rfl⟩⟩
end Go.Proofs.YtajmjolgphadoaaDoor
namespace Go.Proofs.YtajmjolgphadoaaDoor
open Go.RowKit

theorem Gr.grown {w w1 w2 : World} {F F1 : Fz} {row : Option Nat} (h : Gr w F w1 F1) (hg : w1.grownBy w2 row) (hr : ∀ g, row = some g → w.heap.size ≤ g ∧ F1 g = none) : Gr w F w2 F1 :=
  ⟨h.below.grown hg h.below.size (fun k hk => (hr k hk).1), h.old, h.sat.grown hg (fun k hk => (hr k hk).2)⟩
theorem Gr.none {w w' : World} {F F' : Fz} (h : Gr w F w' F') {g : Nat} (hg : g < w.heap.size) (hn : F g = none) : F' g = none := by rw [h.old g hg]; exact hn
/-- A row that the call owns: its elements are told by R. -/
structure Own {α : Type} (k : Nat) (R : Fz → List Value → α → Prop) (E base : Nat) (w : World) (F : Fz) (v : Value) (l : List α) : Prop where
  ex : ∃ el : List (List Value), w.ownsRow base E k v l.length el.flatten ∧ AllR (R F) el l ∧ ∀ x ∈ el, x.length = k
  out : ∀ g, v.ownBlock = some g → F g = none
section
variable {α : Type} {k E base : Nat} {R : Fz → List Value → α → Prop} {w w' : World} {F F' : Fz} {v : Value} {l : List α}
theorem Own.nil (w : World) (F : Fz) : Own k R E base w F (.slice none 0 0) [] := ⟨⟨[], World.ownsRow_nil w base E k, trivial, by simp⟩, fun g h => by cases h⟩
theorem Own.lt (h : Own k R E base w F v l) : ∀ g, v.ownBlock = some g → base ≤ g ∧ g < w.heap.size := by
  obtain ⟨el, h1, _⟩ := h.ex
  exact h1.lt
theorem Own.shape (h : Own k R E base w F v l) : ∃ a c, v = .slice a l.length c ∧ l.length ≤ c ∧ c ≤ maxLen := by
  obtain ⟨el, ⟨_, h2⟩, _⟩ := h.ex
  rcases h2 with ⟨rfl, h0⟩ | ⟨g, cap, cur, rfl, _, _, h3, h4, _⟩
  · exact ⟨none, 0, by rw [h0], by omega, Nat.zero_le _⟩
  · exact ⟨_, cap, rfl, h3, h4⟩
theorem Own.mono (hR : ∀ F F' x p, Le F F' → R F x p → R F' x p) (h : Own k R E base w F v l) (hl : Le F F') (ho : ∀ g, v.ownBlock = some g → F' g = none) : Own k R E base w F' v l := by
  obtain ⟨el, h1, h2, h3⟩ := h.ex
  exact ⟨⟨el, h1, h2.imp fun x p => hR _ _ x p hl, h3⟩, ho⟩
/-- A call leaves the row alone. -/
theorem Own.gr (hR : ∀ F F' x p, Le F F' → R F x p → R F' x p) (h : Own k R E base w F v l) (hs : Sat w F) (g : Gr w F w' F') : Own k R E base w' F' v l := by
  obtain ⟨el, h1, h2, h3⟩ := h.ex
  have hlt := h1.lt
  refine ⟨⟨el, ?_, h2.imp fun x p => hR _ _ x p (g.le hs), h3⟩, fun b hb => g.none (hlt b hb).2 (h.out b hb)⟩
  obtain ⟨e1, e2⟩ := h1
  refine ⟨e1, e2.imp id ?_⟩
  rintro ⟨b, cap, cur, q1, q2, q3, q4⟩
  subst q1
  exact ⟨b, cap, cur, rfl, q2, (g.below.block b (hlt b rfl).2).trans q3, q4⟩
theorem Own.alloc (h : Own k R E base w F v l) (o : Obj) : Own k R E base (w.alloc o) F v l := by
  obtain ⟨el, h1, h2, h3⟩ := h.ex
  exact ⟨⟨el, h1.alloc o, h2, h3⟩, h.out⟩
theorem Own.drew (h : Own k R E base w F v l) : Own k R E base w.drew F v l := ⟨h.ex, h.out⟩
theorem Own.set (h : Own k R E base w F v l) (a : Addr) (u : Value) (ha : v.ownBlock ≠ some a.block) : Own k R E base (w.setCell a u) F v l := by
  obtain ⟨el, ⟨e1, e2⟩, h2, h3⟩ := h.ex
  refine ⟨⟨el, ⟨e1, e2.imp id ?_⟩, h2, h3⟩, h.out⟩
  rintro ⟨b, cap, cur, q1, q2, q3, q4⟩
  subst q1
  exact ⟨b, cap, cur, rfl, q2, heap_set_past q3 (fun e => ha (by rw [e]; rfl)) u, q4⟩
theorem rw_of_owns {xs : List Value} {n : Nat} (h : w.ownsRow base E k v n xs) (hs : Sat w F) : ∃ g, Rw (addF F w g) v n xs ∧ (base ≤ g ∨ addF F w g = F) := by
  obtain ⟨g, q1, q2⟩ := Rw.of_owns h hs
  rcases q2 with rfl | q2
  · obtain ⟨e1, ⟨_, e2⟩ | ⟨_, _, _, e2, _⟩⟩ := h
    · subst e2
      have : xs = [] := List.eq_nil_of_length_eq_zero (by simpa using e1)
      subst this
      refine ⟨w.heap.size, Rw.nil _, .inr ?_⟩
      funext b
      unfold addF
      cases hb : F b with
      | none =>
        simp only []
        split
        · rename_i e; subst e; simp
        · rfl
      | some o => rfl
    · cases e2
  · exact ⟨g, q1, .inl q2⟩
/-- The row is done with: it no more changes. -/
theorem Own.freeze (hR : ∀ F F' x p, Le F F' → R F x p → R F' x p) {w0 : World} {F0 : Fz} (h : Own k R E base w F v l) (g : Gr w0 F0 w F) (hb : w0.heap.size ≤ base) : ∃ F', Gr w0 F0 w F' ∧ Le F F' ∧ Sl k R F' v l := by
  obtain ⟨el, h1, h2, h3⟩ := h.ex
  obtain ⟨b, q1, q2⟩ := rw_of_owns h1 g.sat
  have hle : Le F (addF F w b) := fun b' o hb' => addF_le _ _ _ _ _ hb'
  refine ⟨_, ?_, hle, el, q1, h2.imp fun x p => hR _ _ x p hle, h3⟩
  rcases q2 with q2 | q2
  · exact g.add (Nat.le_trans hb q2)
  · rw [q2]; exact g
/-- What the row's growing leaves alone. -/
theorem Own.far (_hown : Own k R E base w F v l) (hg : w.grownBy w' v.ownBlock) {b : Nat} (hb : b < w.heap.size) (hne : v.ownBlock ≠ some b) : w'.heap[b]? = w.heap[b]? := hg.block b hb (fun e => hne e.symm)
end
/-- A pair's cells. -/
def PrC (F : Fz) (cs : List Value) (p : List UInt8 × List UInt8) : Prop := ∃ a b, cs = [a, b] ∧ Bs F a p.1 ∧ Bs F b p.2
theorem PrC.mono (F F' : Fz) (x : List Value) (p : List UInt8 × List UInt8) (hl : Le F F') (h : PrC F x p) : PrC F' x p := by
  obtain ⟨a, b, h1, h2, h3⟩ := h
  exact ⟨a, b, h1, h2.mono hl, h3.mono hl⟩
abbrev Prs (F : Fz) (v : Value) (l : List (List UInt8 × List UInt8)) : Prop := Sl 2 PrC F v l
theorem Bs.oneCell {F : Fz} {v : Value} {l : List UInt8} (h : Bs F v l) : v.oneCell' = true := by
  obtain ⟨a, c, rfl, _⟩ := h.shape; rfl
theorem PrC.oneCell {F : Fz} {cs : List Value} {p : List UInt8 × List UInt8} (h : PrC F cs p) : ∀ u ∈ cs, u.oneCell' = true := by
  obtain ⟨a, b, rfl, h2, h3⟩ := h
  intro u hu
  rcases List.mem_cons.1 hu with rfl | hu
  · exact h2.oneCell
  · rw [List.mem_singleton.1 hu]; exact h3.oneCell
/-- Element i of a slice of pairs: its two cells. -/
theorem Prs.at {F : Fz} {a : Option Addr} {n c : Nat} {l : List (List UInt8 × List UInt8)} (h : Prs F (.slice a n c) l) (hn : 0 < n) :
    ∃ b o, a = some ⟨b, o, none⟩ ∧ ∀ (i : Nat) (hi : i < l.length), ∃ x y, cellF F b (o + i * 2) = some x ∧ cellF F b (o + i * 2 + 1) = some y ∧ Bs F x l[i].1 ∧ Bs F y l[i].2 := by
  obtain ⟨b, o, e, h1⟩ := Sl.at h (by omega) hn
  refine ⟨b, o, e, fun i hi => ?_⟩
  obtain ⟨cs, q1, ⟨x, y, rfl, q2, q3⟩, q4⟩ := h1 i hi
  refine ⟨x, y, ?_, ?_, q2, q3⟩
  · have := q4 0 (by simp); simpa using this
  · have := q4 1 (by simp); simpa [Nat.add_assoc] using this
theorem Sl.len {α : Type} {k : Nat} {R : Fz → List Value → α → Prop} {F : Fz} {a : Option Addr} {n c : Nat} {l : List α} (h : Sl k R F (.slice a n c) l) : n = l.length := by
  obtain ⟨a', c', h1, _⟩ := h.shape
  cases h1; rfl
end Go.Proofs.YtajmjolgphadoaaDoor
namespace Go.Proofs.YtajmjolgphadoaaDoor
open Go.RowKit
set_option linter.unusedVariables false

/-- A block of the call's own, known whole. -/
structure Blk where
  n : Nat
  c : List Value
  t : TypeId
/-- What is told of a row (or whatever else) that lies in a block of the call's own. -/
structure RowP where
  ob : Option Nat
  holds : World → Fz → Prop
  stable : ∀ w w' F F', holds w F → (∀ g, ob = some g → w'.heap[g]? = w.heap[g]?) → Le F F' → (∀ g, ob = some g → F' g = none) → holds w' F'
structure St (w0 : World) (F0 : Fz) (w : World) (F : Fz) (L : List Blk) (M : List RowP) : Prop where
  gr : Gr w0 F0 w F
  blk : ∀ x ∈ L, w.heap[x.n]? = some (.cells x.c.toArray x.t (0, 0)) ∧ F x.n = none ∧ w0.heap.size ≤ x.n
  row : ∀ r ∈ M, r.holds w F ∧ ∀ g, r.ob = some g → g < w.heap.size ∧ F g = none ∧ w0.heap.size ≤ g
  bb : L.Pairwise fun x y => x.n ≠ y.n
  rb : ∀ r ∈ M, ∀ x ∈ L, r.ob ≠ some x.n
  rr : M.Pairwise fun r s => ∀ g, r.ob = some g → s.ob ≠ some g
section
variable {w0 w w' : World} {F0 F F' : Fz} {L : List Blk} {M : List RowP}
theorem St.sat (S : St w0 F0 w F L M) : Sat w F := S.gr.sat
theorem St.start (hs : Sat w F) : St w F w F [] [] := ⟨Gr.refl hs, by simp, by simp, by simp, by simp, by simp⟩
theorem St.blk_lt (S : St w0 F0 w F L M) {x : Blk} (h : x ∈ L) : x.n < w.heap.size := (Array.getElem?_eq_some_iff.1 (S.blk x h).1).1
theorem St.mem {i : Nat} {x : Blk} (h : L[i]? = some x) : x ∈ L := by obtain ⟨h1, rfl⟩ := List.getElem?_eq_some_iff.1 h; exact List.getElem_mem h1
theorem St.cell (S : St w0 F0 w F L M) {i : Nat} {n : Nat} {c : List Value} {t : TypeId} (h : L[i]? = some ⟨n, c, t⟩) {j : Nat} {v : Value} (hv : c[j]? = some v) : w.cell? ⟨n, j, none⟩ = some v := by
  have := (S.blk _ (St.mem h)).1
  simp only at this
  simp [World.cell?, this, hv]
theorem St.range (S : St w0 F0 w F L M) {i : Nat} {n : Nat} {c : List Value} {t : TypeId} (h : L[i]? = some ⟨n, c, t⟩) (j : Nat) (cs : List Value) (hv : ∀ (k : Nat) v, cs[k]? = some v → c[j + k]? = some v) : w.rangeAt n j cs := fun k v hk => S.cell h (hv k v hk)
theorem St.fz (S : St w0 F0 w F L M) {b o : Nat} {v : Value} (h : cellF F b o = some v) : w.cell? ⟨b, o, none⟩ = some v := S.sat.cell h
/-- A call that makes something leaves what is the caller's own. -/
theorem St.gives (S : St w0 F0 w F L M) (g : Gr w F w' F') : St w0 F0 w' F' L M :=
  ⟨S.gr.trans g, fun x hx => ⟨(g.below.block _ (S.blk_lt hx)).trans (S.blk x hx).1, g.none (S.blk_lt hx) (S.blk x hx).2.1, (S.blk x hx).2.2⟩,
    fun r hr => ⟨r.stable _ _ _ _ (S.row r hr).1 (fun b hb => g.below.block _ ((S.row r hr).2 b hb).1) (g.le S.sat) (fun b hb => g.none ((S.row r hr).2 b hb).1 ((S.row r hr).2 b hb).2.1),
      fun b hb => ⟨Nat.lt_of_lt_of_le ((S.row r hr).2 b hb).1 g.below.size, g.none ((S.row r hr).2 b hb).1 ((S.row r hr).2 b hb).2.1, ((S.row r hr).2 b hb).2.2⟩⟩, S.bb, S.rb, S.rr⟩
theorem St.tells (S : St w0 F0 w F L M) (h : Below w.heap.size w w') : St w0 F0 w' F L M := S.gives (Gr.of_below S.sat h)
theorem St.alloc (S : St w0 F0 w F L M) (cs : Array Value) (T : TypeId) : St w0 F0 (w.alloc (.cells cs T)) F (⟨w.heap.size, cs.toList, T⟩ :: L) M := by
  have S' := S.gives ((Gr.refl S.sat).new (.cells cs T))
  refine ⟨S'.gr, fun x hx => ?_, S'.row, ?_, fun r hr x hx => ?_, S.rr⟩
  · rcases List.mem_cons.1 hx with rfl | hx
    · exact ⟨heap_new_at w _ rfl, S.sat.out (Nat.le_refl _), S.gr.below.size⟩
    · exact S'.blk x hx
  · refine List.pairwise_cons.2 ⟨fun y hy => ?_, S.bb⟩
    have := S.blk_lt hy
    simp only
    omega
  · rcases List.mem_cons.1 hx with rfl | hx
    · intro e
      have := ((S.row r hr).2 _ e).1
      simp at this
    · exact S.rb r hr x hx
def splice (c : List Value) (j : Nat) (vs : List Value) : List Value := c.take j ++ vs ++ c.drop (j + vs.length)
theorem heap_setCells {n : Nat} {T : TypeId} {fr : Nat × Nat} : ∀ (vs : List Value) (j : Nat) (w : World) (c : List Value), w.heap[n]? = some (.cells c.toArray T fr) → j + vs.length ≤ c.length → (w.setCells n j vs).heap[n]? = some (.cells (splice c j vs).toArray T fr)
  | [], j, w, c, h, _ => by simp [World.setCells, splice, h]
  | v :: vs, j, w, c, h, hl => by
    simp only [List.length_cons] at hl
    have h1 : (w.setCell ⟨n, j, none⟩ v).heap[n]? = some (.cells (c.set j v).toArray T fr) := by
      rw [heap_set_at h]; simp
    have h2 := heap_setCells vs (j + 1) (w.setCell ⟨n, j, none⟩ v) (c.set j v) h1 (by simp; omega)
    simp only [World.setCells]
    rw [h2]
    have e : splice (c.set j v) (j + 1) vs = splice c j (v :: vs) := ?_
    · rw [e]
    unfold splice
    apply List.ext_getElem?
    intro m
    simp only [List.getElem?_append, List.getElem?_take, List.length_take, List.length_set, List.length_append, List.getElem?_drop, List.length_cons, List.getElem?_set, List.getElem?_cons]
    grind
theorem heap_setCells_past {n : Nat} : ∀ (vs : List Value) (j : Nat) (w : World) {b : Nat}, b ≠ n → (w.setCells n j vs).heap[b]? = w.heap[b]?
  | [], _, _, _, _ => rfl
  | v :: vs, j, w, b, h => by
    simp only [World.setCells]
    rw [heap_setCells_past vs (j + 1) _ h]
    exact Below.heap_setCell w _ v b h
theorem below_setCells {B n : Nat} (hB : B ≤ n) : ∀ (vs : List Value) (j : Nat) (a w : World), Below B a w → Below B a (w.setCells n j vs)
  | [], _, _, _, h => h
  | v :: vs, j, a, w, h => below_setCells hB vs (j + 1) a _ (h.setCell hB v)
theorem size_setCells {n : Nat} : ∀ (vs : List Value) (j : Nat) (w : World), (w.setCells n j vs).heap.size = w.heap.size
  | [], _, _ => rfl
  | v :: vs, j, w => by simp only [World.setCells]; rw [size_setCells vs]; simp
theorem sat_setCells {n : Nat} (hn : F n = none) : ∀ (vs : List Value) (j : Nat) (w : World), Sat w F → Sat (w.setCells n j vs) F
  | [], _, _, h => h
  | v :: vs, j, w, h => sat_setCells hn vs (j + 1) _ (h.setCell hn v)
theorem St.store (S : St w0 F0 w F L M) {i n : Nat} {c : List Value} {t : TypeId} (h : L[i]? = some ⟨n, c, t⟩) (j : Nat) (vs : List Value) (hl : j + vs.length ≤ c.length) : St w0 F0 (w.setCells n j vs) F (L.set i ⟨n, splice c j vs, t⟩) M := by
  obtain ⟨hi, he⟩ := List.getElem?_eq_some_iff.1 h
  obtain ⟨b1, b2, b3⟩ := S.blk _ (St.mem h)
  simp only at b1 b2 b3
  have hne : ∀ k (hk : k < L.length), k ≠ i → L[k].n ≠ n := by
    intro k hk hki
    have hp := List.pairwise_iff_getElem.1 S.bb
    rcases Nat.lt_or_gt_of_ne hki with h1 | h1
    · have := hp k i hk hi h1; rw [he] at this; exact this
    · have := hp i k hi hk h1; rw [he] at this; exact this.symm
  refine ⟨⟨below_setCells b3 vs j _ _ S.gr.below, S.gr.old, sat_setCells b2 vs j w S.sat⟩, fun x hx => ?_, fun r hr => ?_, ?_, fun r hr x hx => ?_, S.rr⟩
  · obtain ⟨k, hk, rfl⟩ := List.mem_iff_getElem.1 hx
    rw [List.getElem_set]
    split
    · exact ⟨heap_setCells vs j w c b1 hl, b2, b3⟩
    · rename_i hki
      have hk' : k < L.length := by simpa using hk
      have := S.blk _ (List.getElem_mem hk')
      exact ⟨(heap_setCells_past vs j w (hne k hk' (fun e => hki e.symm))).trans this.1, this.2⟩
  · have hr1 := S.row r hr
    have hn : ∀ g, r.ob = some g → g ≠ n := fun g hg e => S.rb r hr _ (St.mem h) (by rw [hg, e])
    exact ⟨r.stable _ _ _ _ hr1.1 (fun g hg => heap_setCells_past vs j w (hn g hg)) (Le.refl _) (fun g hg => (hr1.2 g hg).2.1), fun g hg => ⟨by rw [size_setCells]; exact (hr1.2 g hg).1, (hr1.2 g hg).2⟩⟩
  · refine List.pairwise_iff_getElem.2 fun k m hk hm hkm => ?_
    have hk' : k < L.length := by simpa using hk
    have hm' : m < L.length := by simpa using hm
    have hp := List.pairwise_iff_getElem.1 S.bb k m hk' hm' hkm
    rw [List.getElem_set, List.getElem_set]
    split
    · split
      · omega
      · exact (hne m hm' (by omega)).symm
    · split
      · exact hne k hk' (by omega)
      · exact hp
  · obtain ⟨k, hk, rfl⟩ := List.mem_iff_getElem.1 hx
    have hk' : k < L.length := by simpa using hk
    rw [List.getElem_set]
    split
    · exact S.rb r hr ⟨n, c, t⟩ (St.mem h)
    · exact S.rb r hr _ (List.getElem_mem hk')
theorem St.there (S : St w0 F0 w F L M) {i n : Nat} {c : List Value} {t : TypeId} (h : L[i]? = some ⟨n, c, t⟩) (j k : Nat) (hl : j + k ≤ c.length) : w.there n j k := fun m hm => by
  have := (S.blk _ (St.mem h)).1
  simp only at this
  have hm' : j + m < c.length := by omega
  exact ⟨by simp [World.cell?, this, hm'], by simp [World.frozen?, this]⟩
/-- Fewer blocks are followed. -/
theorem St.drop (S : St w0 F0 w F L M) {L' : List Blk} (h : L'.Sublist L) : St w0 F0 w F L' M := ⟨S.gr, fun x hx => S.blk x (h.subset hx), S.row, S.bb.sublist h, fun r hr x hx => S.rb r hr x (h.subset hx), S.rr⟩
/-- A block of the call's own becomes a part of what no more changes. -/
theorem St.freezeBlk (S : St w0 F0 w F L M) {i n : Nat} {c : List Value} {t : TypeId} (h : L[i]? = some ⟨n, c, t⟩) : St w0 F0 w (addF F w n) (L.eraseIdx i) M ∧ Le F (addF F w n) ∧ ∀ j v, c[j]? = some v → cellF (addF F w n) n j = some v := by
  obtain ⟨hi, he⟩ := List.getElem?_eq_some_iff.1 h
  obtain ⟨b1, b2, b3⟩ := S.blk _ (St.mem h)
  simp only at b1 b2 b3
  have hsub := List.eraseIdx_sublist L i
  have hne : ∀ x ∈ L.eraseIdx i, x.n ≠ n := by
    intro x hx
    obtain ⟨k, hk, rfl⟩ := List.mem_iff_getElem.1 hx
    have hp := List.pairwise_iff_getElem.1 S.bb
    rw [List.length_eraseIdx] at hk
    rw [List.getElem_eraseIdx]
    split
    · rename_i hlt
      have := hp k i (by omega) hi hlt
      rw [he] at this; exact this
    · rename_i hge
      rw [if_pos hi] at hk
      have := hp i (k + 1) hi (by omega) (by omega)
      rw [he] at this; exact this.symm
  have hle : Le F (addF F w n) := fun b o hb => addF_le _ _ _ _ _ hb
  refine ⟨⟨S.gr.add b3, fun x hx => ?_, fun r hr => ?_, S.bb.sublist hsub, fun r hr x hx => S.rb r hr x (hsub.subset hx), S.rr⟩, hle, fun j v hv => ?_⟩
  · have := S.blk x (hsub.subset hx)
    exact ⟨this.1, by rw [addF_old (hne x hx)]; exact this.2.1, this.2.2⟩
  · have hr1 := S.row r hr
    have hn : ∀ g, r.ob = some g → addF F w n g = none := fun g hg => by
      rw [addF_old (fun e => S.rb r hr _ (St.mem h) (by rw [hg, e]))]
      exact (hr1.2 g hg).2.1
    exact ⟨r.stable _ _ _ _ hr1.1 (fun _ _ => rfl) hle hn, fun g hg => ⟨(hr1.2 g hg).1, hn g hg, (hr1.2 g hg).2.2⟩⟩
  · unfold cellF addF
    simp [b2, b1, hv]
end
/-- An owned row, as such a thing. -/
def ownP {α : Type} (k : Nat) (R : Fz → List Value → α → Prop) (hR : ∀ F F' x p, Le F F' → R F x p → R F' x p) (E base : Nat) (v : Value) (l : List α) : RowP where
  ob := v.ownBlock
  holds w F := Own k R E base w F v l
  stable := by
    intro w w' F F' h hh hl hn
    obtain ⟨el, ⟨e1, e2⟩, h2, h3⟩ := h.ex
    refine ⟨⟨el, ⟨e1, e2.imp id ?_⟩, h2.imp fun x p => hR _ _ x p hl, h3⟩, hn⟩
    rintro ⟨b, cap, cur, q1, q2, q3, q4⟩
    subst q1
    exact ⟨b, cap, cur, rfl, q2, (hh b rfl).trans q3, q4⟩
section
variable {w0 w w' : World} {F0 F F' : Fz} {L : List Blk} {M : List RowP} {α : Type} {k E base : Nat} {R : Fz → List Value → α → Prop} {hR : ∀ F F' x p, Le F F' → R F x p → R F' x p} {v : Value} {l : List α}
theorem St.own (S : St w0 F0 w F L M) {i : Nat} (h : M[i]? = some (ownP k R hR E base v l)) : Own k R E base w F v l := by
  obtain ⟨h1, h2⟩ := List.getElem?_eq_some_iff.1 h
  have := (S.row _ (List.getElem_mem h1)).1
  rw [h2] at this
  exact this
theorem St.addNil (S : St w0 F0 w F L M) (k : Nat) (R : Fz → List Value → α → Prop) (hR : ∀ F F' x p, Le F F' → R F x p → R F' x p) (E base : Nat) : St w0 F0 w F L (ownP k R hR E base (.slice none 0 0) [] :: M) :=
  ⟨S.gr, S.blk, fun r hr => by
    rcases List.mem_cons.1 hr with rfl | hr
    · exact ⟨Own.nil w F, fun g hg => by cases hg⟩
    · exact S.row r hr, S.bb, fun r hr x hx => by
    rcases List.mem_cons.1 hr with rfl | hr
    · intro h
      cases h
    · exact S.rb r hr x hx, List.pairwise_cons.2 ⟨fun s _ g hg => (by cases hg), S.rr⟩⟩
theorem pairwise_set_row {M : List RowP} {i : Nat} {r' : RowP} (h : M.Pairwise fun r s => ∀ g, r.ob = some g → s.ob ≠ some g) (hi : ∀ k (hk : k < M.length), k ≠ i → ∀ g, r'.ob = some g → M[k].ob ≠ some g) : (M.set i r').Pairwise fun r s => ∀ g, r.ob = some g → s.ob ≠ some g := by
  rw [List.pairwise_iff_getElem] at h ⊢
  intro a b ha hb hab
  simp only [List.length_set] at ha hb
  rw [List.getElem_set, List.getElem_set]
  split
  · split
    · omega
    · intro g hg; exact hi b hb (by omega) g hg
  · split
    · intro g hg hg'; exact hi a ha (by omega) g hg' hg
    · exact h a b ha hb hab
/-- The row has grown. -/
theorem St.grown (S : St w0 F0 w F L M) {i : Nat} (h : M[i]? = some (ownP k R hR E base v l)) (hb : w0.heap.size ≤ base) {v' : Value} {l' : List α} (hg : w.grownBy w' v.ownBlock) (ho : Own k R E base w' F v' l') (hf : ∀ g, v'.ownBlock = some g → v.ownBlock = some g ∨ w.heap.size ≤ g) : St w0 F0 w' F L (M.set i (ownP k R hR E base v' l')) := by
  obtain ⟨hi, he⟩ := List.getElem?_eq_some_iff.1 h
  have hm : ownP k R hR E base v l ∈ M := by rw [← he]; exact List.getElem_mem hi
  have hown := S.own h
  have hr0 := S.row _ hm
  have hlt := ho.lt
  have hother : ∀ k' (hk : k' < M.length), k' ≠ i → ∀ g, v'.ownBlock = some g → M[k'].ob ≠ some g := by
    intro k' hk hne g hg' hc
    rcases hf g hg' with h1 | h1
    · have hp := List.pairwise_iff_getElem.1 S.rr
      rcases Nat.lt_or_gt_of_ne hne with h2 | h2
      · have := hp k' i hk hi h2 g hc; rw [he] at this; exact this h1
      · have := hp i k' hi hk h2 g (by rw [he]; exact h1); exact this hc
    · have := ((S.row _ (List.getElem_mem hk)).2 g hc).1
      omega
  refine ⟨S.gr.grown hg (fun g hg' => ⟨(hr0.2 g hg').2.2, (hr0.2 g hg').2.1⟩), fun x hx => ?_, fun r hr => ?_, S.bb, fun r hr x hx => ?_, pairwise_set_row S.rr hother⟩
  · have := S.blk x hx
    have hne : v.ownBlock ≠ some x.n := S.rb _ hm x hx
    exact ⟨(hg.block _ (S.blk_lt hx) (fun e => hne e.symm)).trans this.1, this.2⟩
  · obtain ⟨k', hk, rfl⟩ := List.mem_iff_getElem.1 hr
    have hk' : k' < M.length := by simpa using hk
    rw [List.getElem_set]
    split
    · refine ⟨ho, fun g hg' => ⟨(hlt g hg').2, ho.out g hg', Nat.le_trans hb (hlt g hg').1⟩⟩
    · rename_i hki
      have hr1 := S.row _ (List.getElem_mem hk')
      have hne : ∀ g, M[k'].ob = some g → v.ownBlock ≠ some g := fun g hg' hv => by
        have hp := List.pairwise_iff_getElem.1 S.rr
        rcases Nat.lt_or_gt_of_ne (fun e => hki e.symm : k' ≠ i) with h2 | h2
        · have := hp k' i hk' hi h2 g hg'; rw [he] at this; exact this hv
        · have := hp i k' hi hk' h2 g (by rw [he]; exact hv); exact this hg'
      exact ⟨RowP.stable _ _ _ _ _ hr1.1 (fun g hg' => hg.block _ (hr1.2 g hg').1 (fun e => hne g hg' e.symm)) (Le.refl _) (fun g hg' => (hr1.2 g hg').2.1), fun g hg' => ⟨Nat.lt_of_lt_of_le (hr1.2 g hg').1 hg.size, (hr1.2 g hg').2⟩⟩
  · obtain ⟨k', hk, rfl⟩ := List.mem_iff_getElem.1 hr
    have hk' : k' < M.length := by simpa using hk
    rw [List.getElem_set]
    split
    · intro e
      rcases hf x.n e with h1 | h1
      · exact S.rb _ hm x hx h1
      · have := S.blk_lt hx; omega
    · exact S.rb _ (List.getElem_mem hk') x hx
/-- The row is done with. -/
theorem St.freeze (S : St w0 F0 w F L M) {i : Nat} (h : M[i]? = some (ownP k R hR E base v l)) (hb : w0.heap.size ≤ base) : ∃ F', St w0 F0 w F' L (M.eraseIdx i) ∧ Le F F' ∧ Sl k R F' v l := by
  obtain ⟨hi, he⟩ := List.getElem?_eq_some_iff.1 h
  have hm : ownP k R hR E base v l ∈ M := by rw [← he]; exact List.getElem_mem hi
  have hown := S.own h
  obtain ⟨el, h1, h2, h3⟩ := hown.ex
  have hsub := List.eraseIdx_sublist M i
  have hother : ∀ r ∈ M.eraseIdx i, ∀ g, v.ownBlock = some g → r.ob ≠ some g := by
    intro r hr g hg hc
    obtain ⟨k', hk, rfl⟩ := List.mem_iff_getElem.1 hr
    have hp := List.pairwise_iff_getElem.1 S.rr
    rw [List.length_eraseIdx, if_pos hi] at hk
    rw [List.getElem_eraseIdx] at hc
    split at hc
    · rename_i hlt
      have := hp k' i (by omega) hi hlt g hc; rw [he] at this; exact this hg
    · have := hp i (k' + 1) hi (by omega) (by omega) g (by rw [he]; exact hg); exact this hc
  rcases h1.2 with ⟨hv, hn⟩ | ⟨g, cap, cur, hv, q2, q3, q4⟩
  · have hl : l = [] := List.eq_nil_of_length_eq_zero hn
    subst hl
    subst hv
    exact ⟨F, ⟨S.gr, S.blk, fun r hr => S.row r (hsub.subset hr), S.bb, fun r hr => S.rb r (hsub.subset hr), S.rr.sublist hsub⟩, Le.refl _, Sl.nil k R F⟩
  · have hle : Le F (addF F w g) := fun b o hb => addF_le _ _ _ _ _ hb
    have hr0 := (S.row _ hm).2 g (by show v.ownBlock = _; rw [hv]; rfl)
    have hF : addF F w g g = some (.cells cur E (0, 0)) := by unfold addF; rw [hr0.2.1]; simp [q3]
    refine ⟨addF F w g, ⟨S.gr.add hr0.2.2, fun x hx => ?_, fun r hr => ?_, S.bb, fun r hr => S.rb r (hsub.subset hr), S.rr.sublist hsub⟩, hle, el, ?_, h2.imp fun x p => hR _ _ x p hle, h3⟩
    · have := S.blk x hx
      have hne : x.n ≠ g := fun e => S.rb _ hm x hx (by show v.ownBlock = _; rw [hv, e]; rfl)
      exact ⟨this.1, by rw [addF_old hne]; exact this.2.1, this.2.2⟩
    · have hr1 := S.row r (hsub.subset hr)
      have hn : ∀ b, r.ob = some b → addF F w g b = none := fun b hb' => by
        rw [addF_old (fun e => hother r hr g (by rw [hv]; rfl) (by rw [hb', e]))]
        exact (hr1.2 b hb').2.1
      exact ⟨r.stable _ _ _ _ hr1.1 (fun _ _ => rfl) hle hn, fun b hb' => ⟨(hr1.2 b hb').1, hn b hb', (hr1.2 b hb').2.2⟩⟩
    · subst hv
      refine Rw.of_cells q4.1 q4.2.1 fun j u hu => ?_
      rw [← q4.2.2.2, List.getElem?_take] at hu
      split at hu
      · unfold cellF; rw [hF, Nat.zero_add]; simpa using hu
      · cases hu
end
end Go.Proofs.YtajmjolgphadoaaDoor
