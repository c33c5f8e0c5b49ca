/- Histories: plain laws. No program in sight. -/
import Derived.Test.YteefnnnbbmbmcaaP4
namespace Go.Proofs.Yteefnnnbbmbmcaa
open Go.RowKit

structure Cm where
  turn : Nat
  writes : List Wr
def foldC (f : Forest) : List Cm → Option Forest
  | [] => some f
  | c :: cs => match applyF f c.writes with
    | some g => foldC g cs
    | none => none
def sizeC (cs : List Cm) : Nat := (cs.map fun c => c.writes.length).sum
structure CmOk (c : Cm) : Prop where
  turn : 1 ≤ c.turn ∧ c.turn ≤ 1048576
  some : 1 ≤ c.writes.length ∧ c.writes.length ≤ 10
  ok : ∀ w ∈ c.writes, WrOk w
/-- Commits turn by turn, each of which fits; m writes at most in all. -/
structure HistOk (m : Nat) (cs : List Cm) : Prop where
  turn : ∀ (i : Nat) (h : i < cs.length), cs[i].turn = i + 1
  ok : ∀ c ∈ cs, CmOk c
  size : sizeC cs ≤ m
  fits : ∃ f, foldC [] cs = some f
theorem foldC_append (f : Forest) (a b : List Cm) : foldC f (a ++ b) = match foldC f a with | some g => foldC g b | none => none := by
  induction a generalizing f with
  | nil => rfl
  | cons c a ih =>
    simp only [List.cons_append, foldC]
    cases applyF f c.writes with
    | none => rfl
    | some g => exact ih g
theorem sizeC_append (a b : List Cm) : sizeC (a ++ b) = sizeC a + sizeC b := by simp [sizeC]
theorem foldC_ok : ∀ {cs : List Cm} {m : Nat} {f g : Forest}, ForestOk m f → (∀ c ∈ cs, CmOk c) → foldC f cs = some g → ForestOk (m + sizeC cs) g
  | [], m, f, g, hf, _, h => by cases h; exact hf
  | c :: cs, m, f, g, hf, hc, h => by
    unfold foldC at h
    split at h
    · rename_i f1 e
      have := foldC_ok (applyF_ok hf (hc c (by simp)).ok e) (fun x hx => hc x (by simp [hx])) h
      refine this.mono ?_
      simp [sizeC]; omega
    · cases h
/-- The forest behind so many commits. -/
def stateC (cs : List Cm) (k : Nat) : Forest := (foldC [] (cs.take k)).getD []
theorem state_some {m : Nat} {cs : List Cm} (h : HistOk m cs) (k : Nat) : foldC [] (cs.take k) = some (stateC cs k) := by
  obtain ⟨f, hf⟩ := h.fits
  rw [← List.take_append_drop k cs, foldC_append] at hf
  unfold stateC
  cases e : foldC [] (cs.take k) with
  | none => rw [e] at hf; cases hf
  | some g => rfl
theorem state_ok {m : Nat} {cs : List Cm} (h : HistOk m cs) (k : Nat) : ForestOk m (stateC cs k) := by
  have := foldC_ok (ForestOk.nil 0) (fun c hc => h.ok c (List.mem_of_mem_take hc)) (state_some h k)
  refine this.mono ?_
  have h2 := h.size
  rw [← List.take_append_drop k cs, sizeC_append] at h2
  omega
theorem state_next {m : Nat} {cs : List Cm} (h : HistOk m cs) {k : Nat} (hk : k < cs.length) : applyF (stateC cs k) cs[k].writes = some (stateC cs (k + 1)) := by
  have h1 := state_some h (k + 1)
  rw [List.take_succ_eq_append_getElem hk, foldC_append, state_some h k] at h1
  simp only [foldC] at h1
  cases e : applyF (stateC cs k) cs[k].writes with
  | none => rw [e] at h1; cases h1
  | some g => rw [e] at h1; simpa using h1
theorem state_zero (cs : List Cm) : stateC cs 0 = [] := rfl
theorem HistOk.take {m : Nat} {cs : List Cm} (h : HistOk m cs) (k : Nat) : HistOk m (cs.take k) := by
  refine ⟨fun i hi => by rw [List.getElem_take]; exact h.turn i _, fun c hc => h.ok c (List.mem_of_mem_take hc), ?_, ⟨_, state_some h k⟩⟩
  have h2 := h.size
  rw [← List.take_append_drop k cs, sizeC_append] at h2
  omega
theorem state_take {cs : List Cm} {k n : Nat} (h : n ≤ k) : stateC (cs.take k) n = stateC cs n := by
  unfold stateC; rw [List.take_take, Nat.min_eq_left h]
theorem HistOk.nil (m : Nat) : HistOk m [] := ⟨by simp, by simp, by simp [sizeC], ⟨[], rfl⟩⟩
theorem HistOk.snoc {m n : Nat} {cs : List Cm} (h : HistOk m cs) {ws : List Wr} (hw : ∀ w ∈ ws, WrOk w) (h1 : 1 ≤ ws.length) (h2 : ws.length ≤ 10) (hm : m + ws.length ≤ n) (hl : cs.length < 1048576) {g : Forest} (hg : applyF (stateC cs cs.length) ws = some g) :
    HistOk n (cs ++ [⟨cs.length + 1, ws⟩]) ∧ stateC (cs ++ [⟨cs.length + 1, ws⟩]) (cs.length + 1) = g := by
  have hs := state_some h cs.length
  rw [List.take_length] at hs
  have hf : foldC [] (cs ++ [⟨cs.length + 1, ws⟩]) = some g := by rw [foldC_append, hs]; simp [foldC, hg]
  refine ⟨⟨fun i hi => ?_, fun c hc => ?_, ?_, ⟨g, hf⟩⟩, ?_⟩
  · rw [List.getElem_append]
    split
    · rename_i h'; exact h.turn i h'
    · have : i = cs.length := by simp at hi; omega
      subst this; simp
  · rcases List.mem_append.1 hc with hc | hc
    · exact h.ok c hc
    · rw [List.mem_singleton.1 hc]; exact ⟨⟨by simp, by simp; omega⟩, ⟨h1, h2⟩, hw⟩
  · rw [sizeC_append]; have := h.size; simp [sizeC] at *; omega
  · unfold stateC
    rw [List.take_of_length_le (by simp), hf]; rfl
/-- Clash: has a later commit written what was read? -/
def clashX (start : Int) (rs : List Rd) (cs : List Cm) : Bool := cs.any fun c => decide (start < c.turn) && c.writes.any fun w => rs.any fun r => touchesX r w
theorem state_touch {m : Nat} {cs : List Cm} (h : HistOk m cs) {start : Nat} {rs : List Rd} (hc : clashX start rs cs = false) {r : Rd} (hr : r ∈ rs) (k : By) (hk : touchesX r ⟨r.name, k, false, []⟩ = true) :
    ∀ n, start ≤ n → n ≤ cs.length → getF (stateC cs n) r.name k = getF (stateC cs start) r.name k := by
  intro n h1 h2
  induction n with
  | zero => rw [show start = 0 from by omega]
  | succ n ih =>
    by_cases e : start = n + 1
    · rw [e]
    · have hn : n < cs.length := h2
      rw [getF_applyF (state_ok h n) (h.ok _ (List.getElem_mem hn)).ok (state_next h hn), ← ih (by omega) (by omega)]
      cases hl : lastW cs[n].writes r.name k with
      | none => rfl
      | some w =>
        exfalso
        unfold lastW at hl
        have hw1 := List.mem_of_find?_eq_some hl
        have hw2 := List.find?_some hl
        simp only [Bool.and_eq_true, beq_iff_eq] at hw2
        rw [List.mem_reverse] at hw1
        have : clashX start rs cs = true := by
          unfold clashX
          rw [List.any_eq_true]
          refine ⟨cs[n], List.getElem_mem hn, ?_⟩
          rw [Bool.and_eq_true, List.any_eq_true]
          refine ⟨by rw [h.turn n hn]; simp; omega, w, hw1, ?_⟩
          rw [List.any_eq_true]
          refine ⟨r, hr, ?_⟩
          unfold touchesX at hk ⊢
          rw [hw2.1, hw2.2]
          exact hk
        rw [hc] at this; cases this
/-- Who meets no clash would read the same now: a key. -/
theorem clash_get {m : Nat} {cs : List Cm} (h : HistOk m cs) {start : Nat} {rs : List Rd} (hc : clashX start rs cs = false) {r : Rd} (hr : r ∈ rs) (hw : r.wide = false) {n : Nat} (h1 : start ≤ n) (h2 : n ≤ cs.length) :
    getF (stateC cs n) r.name r.key = getF (stateC cs start) r.name r.key :=
  state_touch h hc hr r.key (by simp [touchesX, hw]) n h1 h2
/-- .. and a range. -/
theorem clash_range {m : Nat} {cs : List Cm} (h : HistOk m cs) {start : Nat} {rs : List Rd} (hc : clashX start rs cs = false) {r : Rd} (hr : r ∈ rs) (hw : r.wide = true) {n : Nat} (h1 : start ≤ n) (h2 : n ≤ cs.length) :
    rangeT (treeF (stateC cs n) r.name) r.key r.last = rangeT (treeF (stateC cs start) r.name) r.key r.last := by
  have t1 := treeF_ok (state_ok h n) r.name
  have t2 := treeF_ok (state_ok h start) r.name
  refine tree_ext (rise_rangeT t1.rise _ _) (rise_rangeT t2.rise _ _) fun k => ?_
  rw [getT_rangeT, getT_rangeT]
  split
  · rename_i hk
    exact state_touch h hc hr k (by simpa [touchesX, hw] using hk) n h1 h2
  · rfl
theorem clash_more {start : Int} {rs qs : List Rd} {cs : List Cm} (hs : ∀ r ∈ rs, r ∈ qs) (h : clashX start rs cs = true) : clashX start qs cs = true := by
  unfold clashX at *
  simp only [List.any_eq_true, Bool.and_eq_true] at *
  obtain ⟨c, h1, h2, w, h3, r, h4, h5⟩ := h
  exact ⟨c, h1, h2, w, h3, r, hs r h4, h5⟩
theorem clash_late {a b : Int} (hab : a ≤ b) {rs : List Rd} {cs : List Cm} (h : clashX b rs cs = true) : clashX a rs cs = true := by
  unfold clashX at *
  simp only [List.any_eq_true, Bool.and_eq_true, decide_eq_true_eq] at *
  obtain ⟨c, h1, h2, w, h3, r, h4, h5⟩ := h
  exact ⟨c, h1, by omega, w, h3, r, h4, h5⟩
end Go.Proofs.Yteefnnnbbmbmcaa
