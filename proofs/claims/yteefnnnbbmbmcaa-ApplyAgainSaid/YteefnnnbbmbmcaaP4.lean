/- Transactions and histories: plain laws. No program in sight. -/
import Derived.Test.YteefnnnbbmbmcaaP2
import Derived.Test.YteefnnnbbmbmcaaP3
namespace Go.Proofs.Yteefnnnbbmbmcaa
open Go.RowKit

structure Rd where
  name : By
  key : By
  wide : Bool
  last : By
deriving DecidableEq
structure RdOk (r : Rd) : Prop where
  name : NameOk r.name
  key : 1 ≤ r.key.length ∧ r.key.length ≤ 16
  last : if r.wide then 1 ≤ r.last.length ∧ r.last.length ≤ 16 else r.last = []
structure Tx where
  start : Int
  reads : List Rd
  writes : List Wr
def samePl (a b : Wr) : Bool := a.name == b.name && a.key == b.key
theorem samePl_iff {a b : Wr} : samePl a b = true ↔ a.name = b.name ∧ a.key = b.key := by simp [samePl]
structure TxOk (t : Tx) : Prop where
  start : 0 ≤ t.start ∧ t.start ≤ 1048576
  nr : t.reads.length ≤ 20
  nw : t.writes.length ≤ 10
  reads : ∀ r ∈ t.reads, RdOk r
  rdiff : t.reads.Pairwise (· ≠ ·)
  writes : ∀ w ∈ t.writes, WrOk w
  wdiff : t.writes.Pairwise fun a b => samePl a b = false
def noteX (t : Tx) (r : Rd) : Option Tx := if r ∈ t.reads then some t else if t.reads.length = 20 then none else some { t with reads := t.reads ++ [r] }
/-- The place of a write among those of a transaction. -/
def idxW (ws : List Wr) (w : Wr) : Option Nat := ws.findIdx? fun x => samePl x w
def writeX (t : Tx) (w : Wr) : Option Tx := match idxW t.writes w with
  | some i => some { t with writes := t.writes.set i w }
  | none => if t.writes.length = 10 then none else some { t with writes := t.writes ++ [w] }
theorem noteX_ok {t u : Tx} (h : TxOk t) {r : Rd} (hr : RdOk r) (e : noteX t r = some u) : TxOk u := by
  unfold noteX at e
  split at e
  · cases e; exact h
  · rename_i hn
    split at e
    · cases e
    · cases e
      have := h.nr
      refine ⟨h.start, by simp; omega, h.nw, fun x hx => ?_, ?_, h.writes, h.wdiff⟩
      · rcases List.mem_append.1 hx with hx | hx
        · exact h.reads x hx
        · rw [List.mem_singleton.1 hx]; exact hr
      · refine List.pairwise_append.2 ⟨h.rdiff, by simp, fun a ha b hb => ?_⟩
        rw [List.mem_singleton.1 hb]
        rintro rfl; exact hn ha
theorem idxW_some {ws : List Wr} {w : Wr} {i : Nat} (h : idxW ws w = some i) : ∃ hi : i < ws.length, samePl ws[i] w = true := by
  unfold idxW at h
  obtain ⟨h1, h2, _⟩ := List.findIdx?_eq_some_iff_getElem.1 h
  exact ⟨h1, h2⟩
theorem idxW_none {ws : List Wr} {w : Wr} (h : idxW ws w = none) : ∀ x ∈ ws, samePl x w = false := by
  unfold idxW at h
  simpa using List.findIdx?_eq_none_iff.1 h
theorem samePl_trans {a b c : Wr} (h : samePl a b = true) : samePl a c = samePl b c := by
  obtain ⟨h1, h2⟩ := samePl_iff.1 h
  unfold samePl; rw [h1, h2]
theorem samePl_comm (a b : Wr) : samePl a b = samePl b a := by
  rw [Bool.eq_iff_iff, samePl_iff, samePl_iff]; exact ⟨fun h => ⟨h.1.symm, h.2.symm⟩, fun h => ⟨h.1.symm, h.2.symm⟩⟩
theorem set_diff {ws : List Wr} {w : Wr} {i : Nat} (hi : i < ws.length) (hs : samePl ws[i] w = true) (h : ws.Pairwise fun a b => samePl a b = false) : (ws.set i w).Pairwise fun a b => samePl a b = false := by
  rw [List.pairwise_iff_getElem] at h ⊢
  intro a b ha hb hab
  simp only [List.length_set] at ha hb
  have h0 := h a b ha hb hab
  rw [List.getElem_set, List.getElem_set]
  split
  · rename_i e; subst e
    rw [if_neg (by omega), ← samePl_trans hs]; exact h0
  · split
    · rename_i e; subst e
      rw [samePl_comm, ← samePl_trans hs, samePl_comm]; exact h0
    · exact h0
theorem writeX_ok {t u : Tx} (h : TxOk t) {w : Wr} (hw : WrOk w) (e : writeX t w = some u) : TxOk u := by
  unfold writeX at e
  split at e
  · rename_i i hi
    cases e
    obtain ⟨h1, h2⟩ := idxW_some hi
    refine ⟨h.start, h.nr, by simpa using h.nw, h.reads, h.rdiff, fun x hx => ?_, set_diff h1 h2 h.wdiff⟩
    rcases List.mem_or_eq_of_mem_set hx with hx | rfl
    · exact h.writes x hx
    · exact hw
  · rename_i hi
    split at e
    · cases e
    · cases e
      have := h.nw
      refine ⟨h.start, h.nr, by simp; omega, h.reads, h.rdiff, fun x hx => ?_, ?_⟩
      · rcases List.mem_append.1 hx with hx | hx
        · exact h.writes x hx
        · rw [List.mem_singleton.1 hx]; exact hw
      · refine List.pairwise_append.2 ⟨h.wdiff, by simp, fun a ha b hb => ?_⟩
        rw [List.mem_singleton.1 hb]
        exact idxW_none hi a ha
theorem writeX_len {t u : Tx} {w : Wr} (e : writeX t w = some u) : u.writes.length ≤ t.writes.length + 1 ∧ u.reads = t.reads ∧ u.start = t.start ∧ t.writes.length ≤ u.writes.length := by
  unfold writeX at e
  split at e
  · cases e; simp
  · split at e
    · cases e
    · cases e; simp
theorem noteX_len {t u : Tx} {r : Rd} (e : noteX t r = some u) : u.reads.length ≤ t.reads.length + 1 ∧ u.writes = t.writes ∧ u.start = t.start := by
  unfold noteX at e
  split at e
  · cases e; simp
  · split at e
    · cases e
    · cases e; simp
theorem writeX_room {t : Tx} {w : Wr} (h : t.writes.length < 10) : ∃ u, writeX t w = some u := by
  unfold writeX
  cases idxW t.writes w with
  | some i => exact ⟨_, rfl⟩
  | none => simp only []; rw [if_neg (by omega)]; exact ⟨_, rfl⟩
theorem noteX_room {t : Tx} {r : Rd} (h : t.reads.length < 20) : ∃ u, noteX t r = some u := by
  unfold noteX
  split
  · exact ⟨_, rfl⟩
  · rw [if_neg (by omega)]; exact ⟨_, rfl⟩
/-- What a transaction has written at a place. -/
def ownW (ws : List Wr) (n k : By) : Option Wr := ws.find? fun w => w.name == n && w.key == k
/-- The last write to a place is the only one. -/
theorem lastW_own : ∀ {ws : List Wr}, (ws.Pairwise fun a b => samePl a b = false) → ∀ n k, lastW ws n k = ownW ws n k
  | [], _, n, k => rfl
  | w :: ws, h, n, k => by
    obtain ⟨h1, h2⟩ := List.pairwise_cons.1 h
    rw [lastW_cons, lastW_own h2]
    unfold ownW
    rw [List.find?_cons]
    by_cases hw : w.name = n ∧ w.key = k
    · have e : (w.name == n && w.key == k) = true := by simp [hw.1, hw.2]
      rw [e]
      have : List.find? (fun w => w.name == n && w.key == k) ws = none := by
        rw [List.find?_eq_none]
        intro x hx
        have := h1 x hx
        unfold samePl at this
        rw [hw.1, hw.2] at this
        rw [Bool.and_eq_false_iff, beq_eq_false_iff_ne, beq_eq_false_iff_ne] at this
        simp only [Bool.and_eq_true, beq_iff_eq]
        rintro ⟨e1, e2⟩
        rcases this with h | h
        · exact h e1.symm
        · exact h e2.symm
      rw [this]
      simp [hw]
    · have e : (w.name == n && w.key == k) = false := by
        rw [Bool.and_eq_false_iff, beq_eq_false_iff_ne, beq_eq_false_iff_ne]
        by_cases h1 : w.name = n
        · exact .inr fun h2 => hw ⟨h1, h2⟩
        · exact .inl h1
      rw [e]
      simp only [hw, if_false]
      cases List.find? (fun w => w.name == n && w.key == k) ws <;> rfl
def lookX (f : Forest) (t : Tx) (n k : By) : Option By × Bool := match ownW t.writes n k with
  | some w => (if w.gone then none else some w.value, true)
  | none => (getF f n k, false)
def inR (n a b : By) (w : Wr) : Bool := w.name == n && !Op.bytesLess w.key a && !Op.bytesLess b w.key
def scanStep (n a b : By) (l : List Pr) (w : Wr) : Option (List Pr) := if inR n a b w then (if w.gone = false ∧ 60 < (nextT w l).length then none else some (nextT w l)) else some l
def scanFrom (n a b : By) (l : List Pr) : List Wr → Option (List Pr)
  | [] => some l
  | w :: ws => match scanStep n a b l w with
    | some m => scanFrom n a b m ws
    | none => none
def scanX (f : Forest) (t : Tx) (n a b : By) : Option (List Pr) := scanFrom n a b (rangeT (treeF f n) a b) t.writes
theorem rise_rangeT {α : Type} {l : List (By × α)} (hr : Rise l) (a b : By) : Rise (rangeT l a b) := List.Pairwise.filter _ hr
theorem getT_rangeT {α : Type} (l : List (By × α)) (a b k : By) : getT (rangeT l a b) k = if (!Op.bytesLess k a && !Op.bytesLess b k) = true then getT l k else none := by
  induction l with
  | nil => simp [rangeT, getT]
  | cons p l ih =>
    unfold rangeT at *
    rw [List.filter_cons]
    by_cases h : (!Op.bytesLess p.1 a && !Op.bytesLess b p.1) = true
    · rw [if_pos h, getT_cons, getT_cons, ih]
      by_cases e : p.1 = k
      · subst e; rw [if_pos rfl, if_pos h, if_pos rfl]
      · rw [if_neg e, if_neg e]
    · rw [if_neg h, ih, getT_cons]
      by_cases e : p.1 = k
      · subst e; rw [if_neg h, if_neg h]
      · rw [if_neg e]
theorem TreeOk.range {n : Nat} {l : List Pr} (h : TreeOk n l) (a b : By) : TreeOk n (rangeT l a b) :=
  ⟨Nat.le_trans (List.length_filter_le _ _) h.len, fun p hp => h.ok p (List.mem_filter.1 hp).1, rise_rangeT h.rise a b⟩
/-- Scanning goes along with writing. -/
theorem scan_write : ∀ {ws : List Wr} {m : Nat} {f g : Forest} {l : List Pr} (n a b : By), ForestOk m f → (∀ w ∈ ws, WrOk w) → m + ws.length ≤ 60 → applyF f ws = some g → l = rangeT (treeF f n) a b →
    scanFrom n a b l ws = some (rangeT (treeF g n) a b)
  | [], m, f, g, l, n, a, b, _, _, _, h, hl => by cases h; rw [hl]; rfl
  | w :: ws, m, f, g, l, n, a, b, hf, hw, hm, h, hl => by
    unfold applyF at h
    split at h
    · rename_i f1 e
      have hok := writeF_ok hf (hw w (by simp)) e
      have hstep : scanStep n a b l w = some (rangeT (treeF f1 n) a b) := by
        have ht := treeF_ok hf n
        have ht1 := treeF_ok hok n
        have hlr : Rise l := by rw [hl]; exact rise_rangeT ht.rise a b
        unfold scanStep
        by_cases hr : inR n a b w = true
        · rw [if_pos hr]
          unfold inR at hr
          simp only [Bool.and_eq_true, beq_iff_eq] at hr
          have heq : nextT w l = rangeT (treeF f1 n) a b := by
            refine tree_ext (by unfold nextT; split; exact rise_delT hlr _; exact rise_putT hlr _ _) (rise_rangeT ht1.rise a b) fun k => ?_
            rw [nextT_get hlr, getT_rangeT, treeF_writeF hf.rise e, if_pos hr.1.1, nextT_get (treeF_ok hf _).rise, hl, getT_rangeT, hr.1.1]
            by_cases ek : w.key = k
            · subst ek
              rw [if_pos rfl, if_pos rfl, if_pos (show (!Op.bytesLess w.key a && !Op.bytesLess b w.key) = true by rw [hr.1.2, hr.2]; rfl)]
            · rw [if_neg ek, if_neg ek]
          have hlen := (ht1.range a b).len
          rw [heq, if_neg (by simp at hm; omega)]
        · rw [if_neg hr, hl]
          congr 1
          refine tree_ext (rise_rangeT ht.rise a b) (rise_rangeT ht1.rise a b) fun k => ?_
          rw [getT_rangeT, getT_rangeT, treeF_writeF hf.rise e]
          by_cases en : w.name = n
          · rw [if_pos en, nextT_get (treeF_ok hf _).rise, en]
            by_cases ek : w.key = k
            · subst ek
              have : ¬ ((!Op.bytesLess w.key a && !Op.bytesLess b w.key) = true) := fun h => hr (by unfold inR; rw [en]; simpa using h)
              rw [if_neg this, if_neg this]
            · rw [if_neg ek]
          · rw [if_neg en]
      unfold scanFrom
      rw [hstep]
      exact scan_write n a b hok (fun x hx => hw x (by simp [hx])) (by simp at hm; omega) h rfl
    · cases h
theorem look_applied {m : Nat} {f g : Forest} {t : Tx} (hf : ForestOk m f) (ht : TxOk t) (h : applyF f t.writes = some g) (n k : By) : (lookX f t n k).1 = getF g n k := by
  rw [getF_applyF hf ht.writes h, lastW_own ht.wdiff]
  unfold lookX
  cases ownW t.writes n k <;> rfl
/-- Does a write go where a read looked? -/
def touchesX (r : Rd) (w : Wr) : Bool := r.name == w.name && (if r.wide then !Op.bytesLess w.key r.key && !Op.bytesLess r.last w.key else r.key == w.key)
end Go.Proofs.Yteefnnnbbmbmcaa
