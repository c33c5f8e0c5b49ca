/- Forests as sorted lists of trees: plain laws. No program in sight. -/
import Derived.Test.YteefnnnbbmbmcaaP1
namespace Go.Proofs.Yteefnnnbbmbmcaa
open Go.RowKit

abbrev Forest := List (By × List Pr)
def NameOk (n : By) : Prop := 1 ≤ n.length ∧ n.length ≤ 8
structure ForestOk (m : Nat) (f : Forest) : Prop where
  len : f.length ≤ 8
  name : ∀ t ∈ f, NameOk t.1
  some : ∀ t ∈ f, t.2 ≠ []
  tree : ∀ t ∈ f, TreeOk m t.2
  rise : Rise f
def treeF (f : Forest) (n : By) : List Pr := (getT f n).getD []
def getF (f : Forest) (n k : By) : Option By := getT (treeF f n) k
structure Wr where
  name : By
  key : By
  gone : Bool
  value : By
structure WrOk (w : Wr) : Prop where
  name : NameOk w.name
  key1 : 1 ≤ w.key.length
  key2 : w.key.length ≤ 16
  value : w.value.length ≤ 32
  gone : w.gone = true → w.value = []
def nextT (w : Wr) (old : List Pr) : List Pr := if w.gone then delT old w.key else putT old w.key w.value
/-- A write: none, if there is no room. -/
def writeF (f : Forest) (w : Wr) : Option Forest :=
  let next := nextT w (treeF f w.name)
  if w.gone = false ∧ 60 < next.length then none
  else if next = [] then some (delT f w.name)
  else if 8 < (putT f w.name next).length then none
  else some (putT f w.name next)
def applyF (f : Forest) : List Wr → Option Forest
  | [] => some f
  | w :: ws => match writeF f w with
    | some g => applyF g ws
    | none => none
theorem applyF_append (f : Forest) (a b : List Wr) : applyF f (a ++ b) = match applyF f a with | some g => applyF g b | none => none := by
  induction a generalizing f with
  | nil => rfl
  | cons w a ih =>
    simp only [List.cons_append, applyF]
    cases writeF f w with
    | none => rfl
    | some g => exact ih g
theorem getT_nil {α : Type} (k : By) : getT ([] : List (By × α)) k = none := rfl
theorem treeF_ok {m : Nat} {f : Forest} (h : ForestOk m f) (n : By) : TreeOk m (treeF f n) := by
  unfold treeF
  cases hg : getT f n with
  | none => exact TreeOk.nil m
  | some t => exact h.tree _ (getT_mem hg)
theorem treeF_put {f : Forest} (hr : Rise f) (n : By) (t : List Pr) (j : By) : treeF (putT f n t) j = if n = j then t else treeF f j := by
  unfold treeF
  rw [getT_putT hr]
  split <;> rfl
theorem treeF_del {f : Forest} (hr : Rise f) (n j : By) : treeF (delT f n) j = if n = j then [] else treeF f j := by
  unfold treeF
  rw [getT_delT hr]
  split <;> rfl
theorem nextT_get {old : List Pr} (hr : Rise old) (w : Wr) (k : By) : getT (nextT w old) k = if w.key = k then (if w.gone then none else some w.value) else getT old k := by
  unfold nextT
  cases w.gone with
  | true => simp only [if_true]; exact getT_delT hr _ _
  | false => simp only [Bool.false_eq_true, if_false]; exact getT_putT hr _ _ _
theorem nextT_ok {m : Nat} {old : List Pr} (h : TreeOk m old) {w : Wr} (hw : WrOk w) : TreeOk (m + 1) (nextT w old) := by
  unfold nextT
  split
  · exact h.del.mono (by omega)
  · refine h.put ⟨hw.key1, hw.key2, hw.value⟩ ?_
    rw [len_putT]
    have := h.len
    split <;> omega
theorem writeF_some {f g : Forest} {w : Wr} (h : writeF f w = some g) :
    (nextT w (treeF f w.name) = [] ∧ g = delT f w.name) ∨ (nextT w (treeF f w.name) ≠ [] ∧ g = putT f w.name (nextT w (treeF f w.name)) ∧ g.length ≤ 8) := by
  unfold writeF at h
  dsimp only at h
  by_cases h1 : w.gone = false ∧ 60 < (nextT w (treeF f w.name)).length
  · rw [if_pos h1] at h; cases h
  · rw [if_neg h1] at h
    by_cases h2 : nextT w (treeF f w.name) = []
    · rw [if_pos h2] at h; left; exact ⟨h2, by injection h with h; exact h.symm⟩
    · rw [if_neg h2] at h
      by_cases h3 : 8 < (putT f w.name (nextT w (treeF f w.name))).length
      · rw [if_pos h3] at h; cases h
      · rw [if_neg h3] at h
        right
        injection h with h
        subst h
        exact ⟨h2, rfl, by omega⟩
/-- No write fails but for want of room for a tenant, if its tree has room. -/
theorem writeF_none {m : Nat} {f : Forest} (hf : ForestOk m f) {w : Wr} (hw : WrOk w) (hm : m < 60) (h : writeF f w = none) : f.length = 8 ∧ hasT f w.name = false ∧ w.gone = false := by
  unfold writeF at h
  dsimp only at h
  have hl := (nextT_ok (treeF_ok hf w.name) hw).len
  rw [if_neg (by omega)] at h
  by_cases h2 : nextT w (treeF f w.name) = []
  · rw [if_pos h2] at h; cases h
  · rw [if_neg h2] at h
    by_cases h3 : 8 < (putT f w.name (nextT w (treeF f w.name))).length
    · rw [len_putT] at h3
      have := hf.len
      cases hh : hasT f w.name with
      | true => rw [hh] at h3; simp at h3; omega
      | false =>
        rw [hh] at h3
        simp at h3
        refine ⟨by omega, rfl, ?_⟩
        cases hg : w.gone with
        | false => rfl
        | true =>
          exfalso
          apply h2
          have e : getT f w.name = none := by
            rw [hasT_getT] at hh
            cases hx : getT f w.name with
            | none => rfl
            | some _ => rw [hx] at hh; cases hh
          unfold nextT treeF
          rw [hg, e]
          rfl
    · rw [if_neg h3] at h; cases h
theorem rise_writeF {f g : Forest} {w : Wr} (hr : Rise f) (h : writeF f w = some g) : Rise g := by
  rcases writeF_some h with ⟨_, rfl⟩ | ⟨_, rfl, _⟩
  · exact rise_delT hr _
  · exact rise_putT hr _ _
theorem writeF_ok {m : Nat} {f g : Forest} (hf : ForestOk m f) {w : Wr} (hw : WrOk w) (h : writeF f w = some g) : ForestOk (m + 1) g := by
  rcases writeF_some h with ⟨h1, rfl⟩ | ⟨h1, rfl, h2⟩
  · have hmem : ∀ t ∈ delT f w.name, t ∈ f := fun t ht => by rw [delT_rem _ hf.rise] at ht; exact mem_remT ht
    refine ⟨?_, fun t ht => hf.name t (hmem t ht), fun t ht => hf.some t (hmem t ht), fun t ht => (hf.tree t (hmem t ht)).mono (by omega), rise_delT hf.rise _⟩
    rw [len_delT hf.rise]
    have := hf.len
    split <;> omega
  · have hmem : ∀ t ∈ putT f w.name (nextT w (treeF f w.name)), t = (w.name, nextT w (treeF f w.name)) ∨ t ∈ f := fun t ht => by rw [putT_ins _ _ hf.rise] at ht; exact mem_insT ht
    refine ⟨h2, fun t ht => ?_, fun t ht => ?_, fun t ht => ?_, rise_putT hf.rise _ _⟩
    · rcases hmem t ht with rfl | ht
      · exact hw.name
      · exact hf.name t ht
    · rcases hmem t ht with rfl | ht
      · exact h1
      · exact hf.some t ht
    · rcases hmem t ht with rfl | ht
      · exact nextT_ok (treeF_ok hf _) hw
      · exact (hf.tree t ht).mono (by omega)
theorem treeF_writeF {f g : Forest} (hr : Rise f) {w : Wr} (h : writeF f w = some g) (n : By) : treeF g n = if w.name = n then nextT w (treeF f w.name) else treeF f n := by
  rcases writeF_some h with ⟨h1, rfl⟩ | ⟨h1, rfl, h2⟩
  · rw [treeF_del hr, h1]
  · rw [treeF_put hr]
theorem getF_writeF {m : Nat} {f g : Forest} (hf : ForestOk m f) {w : Wr} (h : writeF f w = some g) (n k : By) :
    getF g n k = if w.name = n ∧ w.key = k then (if w.gone then none else some w.value) else getF f n k := by
  unfold getF
  rw [treeF_writeF hf.rise h]
  by_cases e : w.name = n
  · subst e
    rw [if_pos rfl, nextT_get (treeF_ok hf _).rise]
    by_cases e2 : w.key = k <;> simp [e2]
  · simp [e]
theorem treeF_getT {m : Nat} {f : Forest} (hf : ForestOk m f) (n : By) : getT f n = if treeF f n = [] then none else some (treeF f n) := by
  unfold treeF
  cases h : getT f n with
  | none => rfl
  | some t => simp [hf.some _ (getT_mem h)]
/-- A forest is what it tells. -/
theorem forest_ext {m n : Nat} {f g : Forest} (hf : ForestOk m f) (hg : ForestOk n g) (h : ∀ n k, getF f n k = getF g n k) : f = g := by
  refine tree_ext hf.rise hg.rise fun n => ?_
  have : treeF f n = treeF g n := tree_ext (treeF_ok hf n).rise (treeF_ok hg n).rise (h n)
  rw [treeF_getT hf, treeF_getT hg, this]
theorem ForestOk.nil (m : Nat) : ForestOk m [] := ⟨by simp, by simp, by simp, by simp, by simp [Rise, RiseBy]⟩
theorem ForestOk.mono {m n : Nat} {f : Forest} (h : ForestOk m f) (hm : m ≤ n) : ForestOk n f := ⟨h.len, h.name, h.some, fun t ht => (h.tree t ht).mono hm, h.rise⟩
theorem applyF_ok : ∀ {ws : List Wr} {m : Nat} {f g : Forest}, ForestOk m f → (∀ w ∈ ws, WrOk w) → applyF f ws = some g → ForestOk (m + ws.length) g
  | [], m, f, g, hf, _, h => by cases h; exact hf
  | w :: ws, m, f, g, hf, hw, h => by
    unfold applyF at h
    split at h
    · rename_i f1 e
      have := applyF_ok (writeF_ok hf (hw w (by simp)) e) (fun x hx => hw x (by simp [hx])) h
      refine this.mono ?_
      simp; omega
    · cases h
/-- What writes make of a place: the last one counts. -/
def lastW (ws : List Wr) (n k : By) : Option Wr := ws.reverse.find? fun w => w.name == n && w.key == k
theorem lastW_nil (n k : By) : lastW [] n k = none := rfl
theorem lastW_cons (w : Wr) (ws : List Wr) (n k : By) : lastW (w :: ws) n k = match lastW ws n k with | some x => some x | none => if w.name = n ∧ w.key = k then some w else none := by
  unfold lastW
  rw [List.reverse_cons, List.find?_append]
  cases List.find? (fun w => w.name == n && w.key == k) ws.reverse with
  | some x => rfl
  | none =>
    by_cases h : w.name = n ∧ w.key = k
    · simp [h.1, h.2]
    · rw [if_neg h]
      have : (w.name == n && w.key == k) = false := by
        rw [Bool.and_eq_false_iff, beq_eq_false_iff_ne, beq_eq_false_iff_ne]
        by_cases h1 : w.name = n
        · exact .inr fun h2 => h ⟨h1, h2⟩
        · exact .inl h1
      simp [this]
theorem getF_applyF : ∀ {ws : List Wr} {m : Nat} {f g : Forest}, ForestOk m f → (∀ w ∈ ws, WrOk w) → applyF f ws = some g → ∀ n k,
    getF g n k = match lastW ws n k with | some w => (if w.gone then none else some w.value) | none => getF f n k
  | [], m, f, g, hf, _, h, n, k => by cases h; rfl
  | w :: ws, m, f, g, hf, hw, h, n, k => by
    unfold applyF at h
    split at h
    · rename_i f1 e
      rw [getF_applyF (writeF_ok hf (hw w (by simp)) e) (fun x hx => hw x (by simp [hx])) h n k, lastW_cons]
      cases lastW ws n k with
      | some x => rfl
      | none =>
        simp only []
        rw [getF_writeF hf e]
        by_cases hh : w.name = n ∧ w.key = k
        · simp [hh]
        · simp [hh]
    · cases h
/-- How many names there are: a write brings at most one. -/
theorem len_writeF {f g : Forest} {w : Wr} (hr : Rise f) (h : writeF f w = some g) : g.length ≤ f.length + 1 := by
  rcases writeF_some h with ⟨h1, rfl⟩ | ⟨h1, rfl, h2⟩
  · rw [len_delT hr]; split <;> omega
  · rw [len_putT]; split <;> omega
end Go.Proofs.Yteefnnnbbmbmcaa
