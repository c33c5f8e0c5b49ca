/- How what comes in is read: from a row's reading to this proof's own words. -/
import Derived.Test.YteefnnnbbmbmcaaA
import Derived.ProofKit
import Derived.OpenShut
import Derived.ShutString
import Derived.ChangeOld
import Derived.Deep.Slices
namespace Go.Proofs.Yteefnnnbbmbmcaa
open Go.RowKit Go.ChangeShapes Go.WideShapes Go.ChangeAt

/-- Lists element by element. -/
def AllR {α : Type} (R : List Value → α → Prop) : List (List Value) → List α → Prop
  | [], [] => True
  | x :: xs, p :: ps => R x p ∧ AllR R xs ps
  | _, _ => False
theorem AllR.len {α : Type} {R : List Value → α → Prop} : ∀ {xs : List (List Value)} {ps : List α}, AllR R xs ps → xs.length = ps.length
  | [], [], _ => rfl
  | _ :: xs, _ :: ps, h => by simp [AllR.len (xs := xs) (ps := ps) h.2]
  | [], _ :: _, h => h.elim
  | _ :: _, [], h => h.elim
theorem AllR.imp {α : Type} {R S : List Value → α → Prop} (hi : ∀ x p, R x p → S x p) : ∀ {xs : List (List Value)} {ps : List α}, AllR R xs ps → AllR S xs ps
  | [], [], _ => trivial
  | _ :: xs, _ :: ps, h => ⟨hi _ _ h.1, AllR.imp hi (xs := xs) (ps := ps) h.2⟩
  | [], _ :: _, h => h.elim
  | _ :: _, [], h => h.elim
theorem AllR.get {α : Type} {R : List Value → α → Prop} : ∀ {xs : List (List Value)} {ps : List α}, AllR R xs ps → ∀ (i : Nat) (h1 : i < xs.length) (h2 : i < ps.length), R xs[i] ps[i]
  | _ :: _, _ :: _, h, 0, _, _ => h.1
  | _ :: xs, _ :: ps, h, i + 1, h1, h2 => AllR.get (xs := xs) (ps := ps) h.2 i (by simpa using h1) (by simpa using h2)
  | [], _, _, _, h1, _ => by simp at h1
theorem AllR.of_get {α : Type} {R : List Value → α → Prop} : ∀ {xs : List (List Value)} {ps : List α}, xs.length = ps.length → (∀ (i : Nat) (h1 : i < xs.length) (h2 : i < ps.length), R xs[i] ps[i]) → AllR R xs ps
  | [], [], _, _ => trivial
  | x :: xs, p :: ps, hl, h => ⟨h 0 (by simp) (by simp), AllR.of_get (by simpa using hl) fun i h1 h2 => h (i + 1) (by simpa using h1) (by simpa using h2)⟩
  | [], _ :: _, hl, _ => by simp at hl
  | _ :: _, [], hl, _ => by simp at hl
theorem AllR.append {α : Type} {R : List Value → α → Prop} : ∀ {xs : List (List Value)} {ps : List α} {ys : List (List Value)} {qs : List α}, AllR R xs ps → AllR R ys qs → AllR R (xs ++ ys) (ps ++ qs)
  | [], [], _, _, _, k => k
  | _ :: xs, _ :: ps, _, _, h, k => ⟨h.1, AllR.append (xs := xs) (ps := ps) h.2 k⟩
  | [], _ :: _, _, _, h, _ => h.elim
  | _ :: _, [], _, _, h, _ => h.elim
theorem AllR.take {α : Type} {R : List Value → α → Prop} : ∀ {xs : List (List Value)} {ps : List α}, AllR R xs ps → ∀ k, AllR R (xs.take k) (ps.take k)
  | [], [], _, k => by simp [AllR]
  | _ :: xs, _ :: ps, h, 0 => by simp [AllR]
  | _ :: xs, _ :: ps, h, k + 1 => ⟨h.1, AllR.take (xs := xs) (ps := ps) h.2 k⟩
  | [], _ :: _, h, _ => h.elim
  | _ :: _, [], h, _ => h.elim
theorem AllR.drop {α : Type} {R : List Value → α → Prop} : ∀ {xs : List (List Value)} {ps : List α}, AllR R xs ps → ∀ k, AllR R (xs.drop k) (ps.drop k)
  | [], [], _, k => by simp [AllR]
  | _ :: xs, _ :: ps, h, 0 => h
  | _ :: xs, _ :: ps, h, k + 1 => AllR.drop (xs := xs) (ps := ps) h.2 k
  | [], _ :: _, h, _ => h.elim
  | _ :: _, [], h, _ => h.elim
/-- Cell j of element i, each of k cells. -/
theorem flatten_at : ∀ {el : List (List Value)} {k : Nat}, (∀ x ∈ el, x.length = k) → ∀ (i : Nat) (hi : i < el.length) (j : Nat), j < k → el.flatten[i * k + j]? = el[i][j]?
  | [], _, _, _, hi, _, _ => by simp at hi
  | x :: el, k, h, 0, _, j, hj => by
    have hx : x.length = k := h x (by simp)
    simp [List.getElem?_append, hx, hj]
  | x :: el, k, h, i + 1, hi, j, hj => by
    have hx : x.length = k := h x (by simp)
    have ih := flatten_at (el := el) (k := k) (fun y hy => h y (by simp [hy])) i (by simpa using hi) j hj
    simp only [List.flatten_cons, List.getElem_cons_succ]
    rw [List.getElem?_append_right (by rw [hx, Nat.add_mul]; omega), hx, show (i + 1) * k + j - k = i * k + j from by rw [Nat.add_mul]; omega, ih]
theorem flatten_len : ∀ {el : List (List Value)} {k : Nat}, (∀ x ∈ el, x.length = k) → el.flatten.length = el.length * k
  | [], _, _ => by simp
  | x :: el, k, h => by
    have ih := flatten_len (el := el) (k := k) (fun y hy => h y (by simp [hy]))
    simp only [List.flatten_cons, List.length_append, List.length_cons, ih, h x (by simp), Nat.add_mul]
    omega
/-- A slice of things of k cells each. -/
def Sl {α : Type} (k : Nat) (R : Fz → List Value → α → Prop) (F : Fz) (v : Value) (l : List α) : Prop :=
  ∃ el : List (List Value), Rw F v l.length el.flatten ∧ AllR (R F) el l ∧ ∀ x ∈ el, x.length = k
theorem Sl.mono {α : Type} {k : Nat} {R : Fz → List Value → α → Prop} (hR : ∀ F F' x p, Le F F' → R F x p → R F' x p) {F F' : Fz} {v : Value} {l : List α} (h : Sl k R F v l) (hl : Le F F') : Sl k R F' v l := by
  obtain ⟨el, h1, h2, h3⟩ := h
  exact ⟨el, h1.mono hl, h2.imp fun x p => hR F F' x p hl, h3⟩
theorem Sl.nil {α : Type} (k : Nat) (R : Fz → List Value → α → Prop) (F : Fz) : Sl k R F (.slice none 0 0) [] := ⟨[], Rw.nil F, trivial, by simp⟩
theorem Sl.shape {α : Type} {k : Nat} {R : Fz → List Value → α → Prop} {F : Fz} {v : Value} {l : List α} (h : Sl k R F v l) : ∃ a c, v = .slice a l.length c ∧ l.length ≤ c ∧ c ≤ maxLen := by
  obtain ⟨el, h1, _⟩ := h
  exact h1.shape
/-- Element i, its cells, and what they are. -/
theorem Sl.at {α : Type} {k : Nat} {R : Fz → List Value → α → Prop} {F : Fz} {a : Option Addr} {n c : Nat} {l : List α} (h : Sl k R F (.slice a n c) l) (hk : 0 < k) (hn : 0 < n) :
    ∃ b o, a = some ⟨b, o, none⟩ ∧ ∀ (i : Nat) (hi : i < l.length), ∃ x, x.length = k ∧ R F x l[i] ∧ ∀ j (hj : j < x.length), cellF F b (o + (i * k + j)) = some x[j] := by
  obtain ⟨el, h1, h2, h3⟩ := h
  have hlen := h2.len
  have hm : n = l.length := by obtain ⟨a', c', e, _⟩ := h1; cases e; rfl
  have hne : el.flatten ≠ [] := by
    intro e
    have := congrArg List.length e
    rw [flatten_len h3, hlen, ← hm] at this
    have := Nat.mul_pos hn hk
    simp at *
    omega
  obtain ⟨b, o, e, hc⟩ := Rw.addr h1 hne
  refine ⟨b, o, e, fun i hi => ⟨el[i]'(by omega), h3 _ (List.getElem_mem _), h2.get i (by omega) hi, fun j hj => ?_⟩⟩
  have hj' : j < k := by rw [h3 _ (List.getElem_mem _)] at hj; exact hj
  exact hc _ _ (by rw [flatten_at h3 i (by omega) j hj']; simp [hj])

theorem addr_add_add (a : Addr) (i j : Nat) : (a.add i).add j = a.add (i + j) := by
  unfold Addr.add
  by_cases h1 : i = 0 <;> by_cases h2 : j = 0 <;> simp [h1, h2, Nat.add_assoc]
theorem choose_list {β : Type} {Q : Nat → β → Prop} : ∀ n, (∀ i, i < n → ∃ b, Q i b) → ∃ l : List β, l.length = n ∧ ∀ (i : Nat) (h : i < l.length), Q i l[i]
  | 0, _ => ⟨[], rfl, fun i h => by simp at h⟩
  | n + 1, h => by
    obtain ⟨l, h1, h2⟩ := choose_list n (fun i hi => h i (by omega))
    obtain ⟨b, hb⟩ := h n (by omega)
    refine ⟨l ++ [b], by simp [h1], fun i hi => ?_⟩
    by_cases hn : i < l.length
    · rw [List.getElem_append_left hn]; exact h2 i hn
    · have : i = n := by simp at hi; omega
      subst this
      simpa [h1] using hb
section
variable {H : Type} {enc : TypeId × Value → H} {P : Program} {w : World}
theorem cell_back {a : Addr} {v : Value} (h : w.cell? a = some v) : a.spot = none ∧ cellF (whole w) a.block a.off = some v := by
  unfold World.cell? at h
  unfold cellF whole
  split at h
  · rename_i c t fr hb
    split at h
    · cases h
    · rename_i hs
      rw [hb]
      exact ⟨by simpa using hs, h⟩
  · cases h
/-- A slice that came in. -/
theorem rd_slice {α : Type} {k : Nat} {R : Fz → List Value → α → Prop} {t e : TypeId} {fuel : Nat} {v : Value} {x : DataW H × List MemPlace} (ht : P.underlying t = some (.slice e)) (hc : P.cellsOf e = k) (hk : 0 < k)
    (h : DataW.trod enc P w 0 (fun _ => true) true fuel t [v] = some x)
    (hR : ∀ n cs y, cs.length = k → DataW.trod enc P w 0 (fun _ => true) true n e cs = some y → ∃ p, R (whole w) cs p) : ∃ l : List α, Sl k R (whole w) v l := by
  rcases Deep.open_slice ht h with ⟨h0, _⟩ | ⟨a, len, cap, m, n, D, Pl, h0, hb, hl, hm, hmm, _, hx⟩
  · cases h0
    exact ⟨[], Sl.nil _ _ _⟩
  · cases h0
    rw [hc] at hx
    have hlm : len ≤ m := by rw [hmm]; simp; exact hl
    have each : ∀ i, i < len → ∃ q : List Value × α, q.1.length = k ∧ (∀ j, j < k → w.cell? (a.add (i * k + j)) = q.1[j]?) ∧ R (whole w) q.1 q.2 := by
      intro i hi
      obtain ⟨cs', h1, h2⟩ := hx i (by omega)
      obtain ⟨h3, h4, h5⟩ := World.cells?_some h1
      obtain ⟨p, hp⟩ := hR n cs' _ h4 h2
      refine ⟨(cs', p), h4, fun j hj => ?_, hp⟩
      rw [← h5 j hj, addr_add_add]
    obtain ⟨L, hL, hall⟩ := choose_list len each
    have hk3 : ∀ x ∈ L.map (·.1), x.length = k := by
      intro x hx
      obtain ⟨q, hq, rfl⟩ := List.mem_map.1 hx
      obtain ⟨i, hi, rfl⟩ := List.mem_iff_getElem.1 hq
      exact (hall i hi).1
    refine ⟨L.map (·.2), L.map (·.1), ⟨some a, cap, by simp [hL], by simpa [hL] using hl, hm, (fun h => nomatch h), ?_⟩, AllR.of_get (by simp) (fun i h1 h2 => by simpa using (hall i (by simpa using h1)).2.2), hk3⟩
    by_cases h0 : len = 0
    · left
      have : L = [] := List.eq_nil_of_length_eq_zero (by omega)
      simp [this]
    · right
      have c0 := (hall 0 (by omega)).2.1 0 hk
      have hl0 := (hall 0 (by omega)).1
      rw [show 0 * k + 0 = 0 from by omega] at c0
      have c0' : w.cell? a = some ((L[0]'(by omega)).1[0]'(by omega)) := by
        have e : a.add 0 = a := by simp [Addr.add]
        rw [e] at c0
        rw [c0]; simp
      have hspot := (cell_back c0').1
      obtain ⟨b, o, sp⟩ := a
      simp at hspot
      subst hspot
      refine ⟨b, o, rfl, fun j u hu => ?_⟩
      have hjl : j < (L.map (·.1)).flatten.length := (List.getElem?_eq_some_iff.1 hu).1
      rw [flatten_len hk3, List.length_map] at hjl
      have hi : j / k < L.length := Nat.div_lt_of_lt_mul (by rw [Nat.mul_comm]; exact hjl)
      have hr : j % k < k := Nat.mod_lt _ hk
      have hj : j / k * k + j % k = j := by rw [Nat.mul_comm]; exact Nat.div_add_mod _ _
      have hf := flatten_at hk3 (j / k) (by simpa using hi) (j % k) hr
      rw [hj] at hf
      rw [hf] at hu
      have hc := (hall (j / k) hi).2.1 (j % k) hr
      rw [hj] at hc
      have hc' : w.cell? (Addr.add ⟨b, o, none⟩ j) = some u := by rw [hc]; simpa using hu
      have e : Addr.add ⟨b, o, none⟩ j = ⟨b, o + j, none⟩ := by unfold Addr.add; split <;> simp_all
      rw [e] at hc'
      exact (cell_back hc').2
/-- Bytes that came in. -/
theorem rd_bytes_cells {t e : TypeId} {fuel : Nat} {v : Value} {x : DataW H × List MemPlace} (ht : P.underlying t = some (.slice e)) (he : P.underlying e = some (.int .u8)) (hc : P.cellsOf e = 1)
    (h : DataW.trod enc P w 0 (fun _ => true) true fuel t [v] = some x) : ∃ l : List UInt8, Bs (whole w) v l := by
  obtain ⟨l, el, h1, h2, h3⟩ := rd_slice (α := UInt8) (k := 1) (R := fun _ cs b => cs = [bv b]) ht hc (by omega) h (fun n cs y hl hy => by
    obtain ⟨c, rfl⟩ := List.length_eq_one_iff.1 hl
    obtain ⟨z, hz, _, hwf⟩ := DataW.trod_int he hy
    simp at hz
    subst hz
    refine ⟨UInt8.ofNat z.toNat, ?_⟩
    have hb := bounds_u8 hwf
    have : z.toNat < 256 := by omega
    simp only [bv, UInt8.toNat_ofNat', List.cons.injEq, and_true]
    congr 1
    omega)
  refine ⟨l, ?_⟩
  have : el.flatten = l.map bv := by
    clear h1 h3
    induction el generalizing l with
    | nil => cases l with
      | nil => rfl
      | cons _ _ => exact h2.elim
    | cons x xs ih => cases l with
      | nil => exact h2.elim
      | cons p ps =>
        have := h2.1
        simp only [List.flatten_cons, List.map_cons]
        rw [ih ps h2.2, this]
        rfl
  unfold Bs
  rw [← this]
  exact h1
end
end Go.Proofs.Yteefnnnbbmbmcaa
