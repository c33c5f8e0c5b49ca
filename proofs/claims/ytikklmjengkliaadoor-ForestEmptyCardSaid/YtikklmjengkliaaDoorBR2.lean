/- Rules, plain laws and walks: D0 P2 P3 P4 P5 P6 P7 P9 S1 FW -/
import Derived.Test.YtikklmjengkliaaDoorBR1
import Derived.Deep.AppendLies
import Derived.Deep.MidRow
namespace Go.Proofs.YtikklmjengkliaaDoor
def at0 (S : List (BitVec 64)) (i : Nat) : BitVec 64 := S.getD i 0
def colL (S : List (BitVec 64)) (x : Nat) : BitVec 64 := at0 S x ^^^ at0 S (x + 5) ^^^ at0 S (x + 10) ^^^ at0 S (x + 15) ^^^ at0 S (x + 20)
def turnL (x : BitVec 64) (n : Nat) : BitVec 64 := (x <<< n) ||| (x >>> (64 - n))
def mapL (n : Nat) (f : Nat → BitVec 64) : List (BitVec 64) := (List.range n).map f
def thAt (S C : List (BitVec 64)) (i : Nat) : BitVec 64 := at0 S i ^^^ (at0 C ((i % 5 + 4) % 5) ^^^ turnL (at0 C ((i % 5 + 1) % 5)) 1)
def thL (S C : List (BitVec 64)) (k : Nat) : List (BitVec 64) := mapL 25 fun i => if i < k then thAt S C i else at0 S i
def goesT : List Nat := [10, 7, 11, 17, 18, 3, 5, 16, 8, 21, 24, 4, 15, 23, 19, 13, 12, 2, 20, 14, 22, 9, 6, 1]
def turnsT : List Nat := [1, 3, 6, 10, 15, 21, 28, 36, 45, 55, 2, 14, 27, 41, 56, 8, 25, 43, 62, 18, 39, 61, 20, 44]
def roundsT : List Nat := [1, 32898, 9223372036854808714, 9223372039002292224, 32907, 2147483649, 9223372039002292353, 9223372036854808585, 138, 136, 2147516425, 2147483658, 2147516555, 9223372036854775947, 9223372036854808713, 9223372036854808579, 9223372036854808578, 9223372036854775936, 32778, 9223372039002259466, 9223372039002292353, 9223372036854808704, 2147483649, 9223372039002292232]
def goesN (i : Nat) : Nat := goesT.getD i 0
def turnsN (i : Nat) : Nat := turnsT.getD i 0
def roundB (i : Nat) : BitVec 64 := BitVec.ofNat 64 (roundsT.getD i 0)
def rhoL (S : List (BitVec 64)) : Nat → List (BitVec 64) × BitVec 64
  | 0 => (S, at0 S 1)
  | k + 1 => let p := rhoL S k; (p.1.set (goesN k) (turnL p.2 (turnsN k)), at0 p.1 (goesN k))
def chiAt (S : List (BitVec 64)) (i : Nat) : BitVec 64 := at0 S i ^^^ (~~~ (at0 S (i / 5 * 5 + (i % 5 + 1) % 5)) &&& at0 S (i / 5 * 5 + (i % 5 + 2) % 5))
def chiL (S : List (BitVec 64)) : List (BitVec 64) := mapL 25 (chiAt S)
def stirL (S : List (BitVec 64)) (r : Nat) : List (BitVec 64) :=
  let a := thL S ((List.range 5).map (colL S)) 25
  let b := (rhoL a 24).1
  let c := chiL b
  c.set 0 (at0 c 0 ^^^ roundB r)
def stirsL (S : List (BitVec 64)) (n : Nat) : List (BitVec 64) := (List.range n).foldl stirL S
def padL (b : List UInt8) : List UInt8 :=
  let p := b ++ [6]
  let q := p ++ List.replicate ((136 - p.length % 136) % 136) 0
  q.set (q.length - 1) (q.getD (q.length - 1) 0 ||| 128)
def mixL (S : List (BitVec 64)) (p : List UInt8) (n : Nat) : List (BitVec 64) :=
  (List.range n).foldl (fun S i => S.set (i / 8) (at0 S (i / 8) ^^^ (BitVec.ofNat 64 (p.getD i 0).toNat <<< (i % 8 * 8)))) S
def absorbL (S : List (BitVec 64)) : List UInt8 → Nat → List (BitVec 64)
  | _, 0 => S
  | p, n + 1 => absorbL (stirsL (mixL S p 136) 24) (p.drop 136) n
def outL (S : List (BitVec 64)) : List UInt8 := (List.range 32).map fun i => UInt8.ofNat ((at0 S (i / 8) >>> (i % 8 * 8)).toNat % 256)
def sumL (b : List UInt8) : List UInt8 := outL (absorbL (List.replicate 25 0) (padL b) ((padL b).length / 136))
theorem mapL_len (n : Nat) (f : Nat → BitVec 64) : (mapL n f).length = n := by simp [mapL]
theorem sumL_len (b : List UInt8) : (sumL b).length = 32 := by simp [sumL, outL]
/-- The digest of a kind and of parts, each behind its length. -/
def partB (p : By) : By := UInt8.ofNat (p.length / 256) :: UInt8.ofNat (p.length % 256) :: p
def partsB (k : UInt8) (ps : List By) : By := k :: ps.flatMap partB
def partsL (k : UInt8) (ps : List By) : By := sumL (partsB k ps)
theorem partsL_len (k : UInt8) (ps : List By) : (partsL k ps).length = 32 := sumL_len _
end Go.Proofs.YtikklmjengkliaaDoor
namespace Go.Proofs.YtikklmjengkliaaDoor
open Go.RowKit

abbrev Forest := List (By × List Pr)
def NameOk (n : By) : Prop := 1 ≤ n.length ∧ n.length ≤ 8
structure ForestOk (m : Nat) (f : Forest) : Prop where
  len : f.length ≤ 8
  name : ∀ t ∈ f, NameOk t.1
  some : ∀ t ∈ f, t.2 ≠ []
  tree : ∀ t ∈ f, TreeOk m t.2
  rise : Rise f
def treeF (f : Forest) (n : By) : List Pr := (getT f n).getD []
def getF (f : Forest) (n k : By) : Option By := getT (treeF f n) k
structure Wr where
  name : By
  key : By
  gone : Bool
  value : By
structure WrOk (w : Wr) : Prop where
  name : NameOk w.name
  key1 : 1 ≤ w.key.length
  key2 : w.key.length ≤ 16
  value : w.value.length ≤ 32
  gone : w.gone = true → w.value = []
def nextT (w : Wr) (old : List Pr) : List Pr := if w.gone then delT old w.key else putT old w.key w.value
/-- A write: none, if there is no room. -/
def writeF (f : Forest) (w : Wr) : Option Forest :=
  let next := nextT w (treeF f w.name)
  if w.gone = false ∧ 60 < next.length then none
  else if next = [] then some (delT f w.name)
  else if 8 < (putT f w.name next).length then none
  else some (putT f w.name next)
def applyF (f : Forest) : List Wr → Option Forest
  | [] => some f
  | w :: ws => match writeF f w with
    | some g => applyF g ws
    | none => none
theorem applyF_append (f : Forest) (a b : List Wr) : applyF f (a ++ b) = match applyF f a with | some g => applyF g b | none => none := by
  induction a generalizing f with
  | nil => rfl
  | cons w a ih =>
    simp only [List.cons_append, applyF]
    cases writeF f w with
    | none => rfl
    | some g => exact ih g
theorem getT_nil {α : Type} (k : By) : getT ([] : List (By × α)) k = none := rfl
theorem treeF_ok {m : Nat} {f : Forest} (h : ForestOk m f) (n : By) : TreeOk m (treeF f n) := by
  unfold treeF
  cases hg : getT f n with
  | none => exact TreeOk.nil m
  | some t => exact h.tree _ (getT_mem hg)
theorem treeF_put {f : Forest} (hr : Rise f) (n : By) (t : List Pr) (j : By) : treeF (putT f n t) j = if n = j then t else treeF f j := by
  unfold treeF
  rw [getT_putT hr]
  split <;> rfl
theorem treeF_del {f : Forest} (hr : Rise f) (n j : By) : treeF (delT f n) j = if n = j then [] else treeF f j := by
  unfold treeF
  rw [getT_delT hr]
  split <;> rfl
theorem nextT_get {old : List Pr} (hr : Rise old) (w : Wr) (k : By) : getT (nextT w old) k = if w.key = k then (if w.gone then none else some w.value) else getT old k := by
  unfold nextT
  cases w.gone with
  | true => simp only [if_true]; exact getT_delT hr _ _
  | false => simp only [Bool.false_eq_true, if_false]; exact getT_putT hr _ _ _
theorem nextT_ok {m : Nat} {old : List Pr} (h : TreeOk m old) {w : Wr} (hw : WrOk w) : TreeOk (m + 1) (nextT w old) := by
  unfold nextT
  split
  · exact h.del.mono (by omega)
  · refine h.put ⟨hw.key1, hw.key2, hw.value⟩ ?_
    rw [len_putT]
    have := h.len
    split <;> omega
theorem writeF_some {f g : Forest} {w : Wr} (h : writeF f w = some g) :
    (nextT w (treeF f w.name) = [] ∧ g = delT f w.name) ∨ (nextT w (treeF f w.name) ≠ [] ∧ g = putT f w.name (nextT w (treeF f w.name)) ∧ g.length ≤ 8) := by
  unfold writeF at h
  dsimp only at h
  by_cases h1 : w.gone = false ∧ 60 < (nextT w (treeF f w.name)).length
  · rw [if_pos h1] at h; cases h
  · rw [if_neg h1] at h
    by_cases h2 : nextT w (treeF f w.name) = []
    · rw [if_pos h2] at h; left; exact ⟨h2, by injection h with h; exact h.symm⟩
    · rw [if_neg h2] at h
      by_cases h3 : 8 < (putT f w.name (nextT w (treeF f w.name))).length
      · rw [if_pos h3] at h; cases h
      · rw [if_neg h3] at h
        right
        injection h with h
        subst h
        exact ⟨h2, rfl, by omega⟩
/-- No write fails but for want of room for a tenant, if its tree has room. -/
theorem writeF_none {m : Nat} {f : Forest} (hf : ForestOk m f) {w : Wr} (hw : WrOk w) (hm : m < 60) (h : writeF f w = none) : f.length = 8 ∧ hasT f w.name = false ∧ w.gone = false := by
  unfold writeF at h
  dsimp only at h
  have hl := (nextT_ok (treeF_ok hf w.name) hw).len
  rw [if_neg (by omega)] at h
  by_cases h2 : nextT w (treeF f w.name) = []
  · rw [if_pos h2] at h; cases h
  · rw [if_neg h2] at h
    by_cases h3 : 8 < (putT f w.name (nextT w (treeF f w.name))).length
    · rw [len_putT] at h3
      have := hf.len
      cases hh : hasT f w.name with
      | true => rw [hh] at h3; simp at h3; omega
      | false =>
        rw [hh] at h3
        simp at h3
        refine ⟨by omega, rfl, ?_⟩
        cases hg : w.gone with
        | false => rfl
        | true =>
          exfalso
          apply h2
          have e : getT f w.name = none := by
            rw [hasT_getT] at hh
            cases hx : getT f w.name with
            | none => rfl
            | some _ => rw [hx] at hh; cases hh
          unfold nextT treeF
          rw [hg, e]
          rfl
    · rw [if_neg h3] at h; cases h
theorem rise_writeF {f g : Forest} {w : Wr} (hr : Rise f) (h : writeF f w = some g) : Rise g := by
  rcases writeF_some h with ⟨_, rfl⟩ | ⟨_, rfl, _⟩
  · exact rise_delT hr _
  · exact rise_putT hr _ _
theorem writeF_ok {m : Nat} {f g : Forest} (hf : ForestOk m f) {w : Wr} (hw : WrOk w) (h : writeF f w = some g) : ForestOk (m + 1) g := by
  rcases writeF_some h with ⟨h1, rfl⟩ | ⟨h1, rfl, h2⟩
  · have hmem : ∀ t ∈ delT f w.name, t ∈ f := fun t ht => by rw [delT_rem _ hf.rise] at ht; exact mem_remT ht
    refine ⟨?_, fun t ht => hf.name t (hmem t ht), fun t ht => hf.some t (hmem t ht), fun t ht => (hf.tree t (hmem t ht)).mono (by omega), rise_delT hf.rise _⟩
    rw [len_delT hf.rise]
    have := hf.len
    split <;> omega
  · have hmem : ∀ t ∈ putT f w.name (nextT w (treeF f w.name)), t = (w.name, nextT w (treeF f w.name)) ∨ t ∈ f := fun t ht => by rw [putT_ins _ _ hf.rise] at ht; exact mem_insT ht
    refine ⟨h2, fun t ht => ?_, fun t ht => ?_, fun t ht => ?_, rise_putT hf.rise _ _⟩
    · rcases hmem t ht with rfl | ht
      · exact hw.name
      · exact hf.name t ht
    · rcases hmem t ht with rfl | ht
      · exact h1
      · exact hf.some t ht
    · rcases hmem t ht with rfl | ht
      · exact nextT_ok (treeF_ok hf _) hw
      · exact (hf.tree t ht).mono (by omega)
theorem treeF_writeF {f g : Forest} (hr : Rise f) {w : Wr} (h : writeF f w = some g) (n : By) : treeF g n = if w.name = n then nextT w (treeF f w.name) else treeF f n := by
  rcases writeF_some h with ⟨h1, rfl⟩ | ⟨h1, rfl, h2⟩
  · rw [treeF_del hr, h1]
  · rw [treeF_put hr]
theorem getF_writeF {m : Nat} {f g : Forest} (hf : ForestOk m f) {w : Wr} (h : writeF f w = some g) (n k : By) :
    getF g n k = if w.name = n ∧ w.key = k then (if w.gone then none else some w.value) else getF f n k := by
  unfold getF
  rw [treeF_writeF hf.rise h]
  by_cases e : w.name = n
  · subst e
    rw [if_pos rfl, nextT_get (treeF_ok hf _).rise]
    by_cases e2 : w.key = k <;> simp [e2]
  · simp [e]
theorem treeF_getT {m : Nat} {f : Forest} (hf : ForestOk m f) (n : By) : getT f n = if treeF f n = [] then none else some (treeF f n) := by
  unfold treeF
  cases h : getT f n with
  | none => rfl
  | some t => simp [hf.some _ (getT_mem h)]
/-- A forest is what it tells. -/
theorem forest_ext {m n : Nat} {f g : Forest} (hf : ForestOk m f) (hg : ForestOk n g) (h : ∀ n k, getF f n k = getF g n k) : f = g := by
  refine tree_ext hf.rise hg.rise fun n => ?_
  have : treeF f n = treeF g n := tree_ext (treeF_ok hf n).rise (treeF_ok hg n).rise (h n)
  rw [treeF_getT hf, treeF_getT hg, this]
theorem ForestOk.nil (m : Nat) : ForestOk m [] := ⟨by simp, by simp, by simp, by simp, by simp [Rise, RiseBy]⟩
theorem ForestOk.mono {m n : Nat} {f : Forest} (h : ForestOk m f) (hm : m ≤ n) : ForestOk n f := ⟨h.len, h.name, h.some, fun t ht => (h.tree t ht).mono hm, h.rise⟩
theorem applyF_ok : ∀ {ws : List Wr} {m : Nat} {f g : Forest}, ForestOk m f → (∀ w ∈ ws, WrOk w) → applyF f ws = some g → ForestOk (m + ws.length) g
  | [], m, f, g, hf, _, h => by cases h; exact hf
  | w :: ws, m, f, g, hf, hw, h => by
    unfold applyF at h
    split at h
    · rename_i f1 e
      have := applyF_ok (writeF_ok hf (hw w (by simp)) e) (fun x hx => hw x (by simp [hx])) h
      refine this.mono ?_
      simp; omega
    · cases h
/-- What writes make of a place: the last one counts. -/
def lastW (ws : List Wr) (n k : By) : Option Wr := ws.reverse.find? fun w => w.name == n && w.key == k
theorem lastW_nil (n k : By) : lastW [] n k = none := rfl
theorem lastW_cons (w : Wr) (ws : List Wr) (n k : By) : lastW (w :: ws) n k = match lastW ws n k with | some x => some x | none => if w.name = n ∧ w.key = k then some w else none := by
  unfold lastW
  rw [List.reverse_cons, List.find?_append]
  cases List.find? (fun w => w.name == n && w.key == k) ws.reverse with
  | some x => rfl
  | none =>
    by_cases h : w.name = n ∧ w.key = k
    · simp [h.1, h.2]
    · rw [if_neg h]
      have : (w.name == n && w.key == k) = false := by
        rw [Bool.and_eq_false_iff, beq_eq_false_iff_ne, beq_eq_false_iff_ne]
        by_cases h1 : w.name = n
        · exact .inr fun h2 => h ⟨h1, h2⟩
        · exact .inl h1
      simp [this]
theorem getF_applyF : ∀ {ws : List Wr} {m : Nat} {f g : Forest}, ForestOk m f → (∀ w ∈ ws, WrOk w) → applyF f ws = some g → ∀ n k,
    getF g n k = match lastW ws n k with | some w => (if w.gone then none else some w.value) | none => getF f n k
  | [], m, f, g, hf, _, h, n, k => by cases h; rfl
  | w :: ws, m, f, g, hf, hw, h, n, k => by
    unfold applyF at h
    split at h
    · rename_i f1 e
      rw [getF_applyF (writeF_ok hf (hw w (by simp)) e) (fun x hx => hw x (by simp [hx])) h n k, lastW_cons]
      cases lastW ws n k with
      | some x => rfl
      | none =>
        simp only []
        rw [getF_writeF hf e]
        by_cases hh : w.name = n ∧ w.key = k
        · simp [hh]
        · simp [hh]
    · cases h
/-- How many names there are: a write brings at most one. -/
theorem len_writeF {f g : Forest} {w : Wr} (hr : Rise f) (h : writeF f w = some g) : g.length ≤ f.length + 1 := by
  rcases writeF_some h with ⟨h1, rfl⟩ | ⟨h1, rfl, h2⟩
  · rw [len_delT hr]; split <;> omega
  · rw [len_putT]; split <;> omega
end Go.Proofs.YtikklmjengkliaaDoor
namespace Go.Proofs.YtikklmjengkliaaDoor
open Go.RowKit

section
variable {α : Type}
theorem posT_mono (l : List (By × α)) {a b : By} (h : ¬ Lt b a) : posT l a ≤ posT l b := by
  induction l with
  | nil => simp [posT, posBy]
  | cons p l ih =>
    unfold posT at *
    rw [posBy_cons, posBy_cons]
    by_cases h1 : Op.bytesLess p.1 a = true
    · have h2 : Op.bytesLess p.1 b = true := by
        cases hx : Op.bytesLess p.1 b with
        | true => rfl
        | false =>
          cases hy : Op.bytesLess b p.1 with
          | true => exact absurd (less_trans _ _ _ hy h1) h
          | false => rw [less_total _ _ hx hy] at h1; exact absurd h1 h
      rw [if_pos h1, if_pos h2]
      omega
    · rw [if_neg h1]
      omega
theorem take_drop_append (l : List α) {i j k : Nat} (h1 : i ≤ j) (h2 : j ≤ k) : (l.take j).drop i ++ (l.take k).drop j = (l.take k).drop i := by
  apply List.ext_getElem?
  intro n
  simp only [List.getElem?_append, List.getElem?_drop, List.getElem?_take, List.length_drop, List.length_take]
  by_cases hn : n < min j l.length - i
  · rw [if_pos hn, if_pos (by omega), if_pos (by omega)]
  · rw [if_neg hn]
    by_cases hj : j ≤ l.length
    · rw [show j + (n - (min j l.length - i)) = i + n from by omega]
    · rw [List.getElem?_eq_none (by omega), List.getElem?_eq_none (by omega)]
      simp
/-- Where a range ends. -/
def endT (l : List (By × α)) (b : By) : Nat := if hasT l b then posT l b + 1 else posT l b
theorem endT_le {l : List (By × α)} (hr : Rise l) (b : By) : endT l b ≤ l.length := by
  unfold endT
  split
  · rename_i h
    obtain ⟨h1, _⟩ := (hasBy_at hr).1 h
    exact h1
  · exact posBy_le _ _ _
theorem posT_endT (l : List (By × α)) (b : By) : posT l b ≤ endT l b := by unfold endT; split <;> omega
theorem endT_mono {l : List (By × α)} (hr : Rise l) {b c : By} (h : ¬ Lt c b) : endT l b ≤ endT l c := by
  have h1 := posT_mono l h
  have h2 := posT_endT l c
  unfold endT at *
  split
  · rename_i hb
    split
    · omega
    · rename_i hc
      obtain ⟨b1, b2⟩ := (hasBy_at hr).1 hb
      rcases Nat.lt_or_eq_of_le h1 with h3 | h3
      · exact h3
      · exfalso
        by_cases e : b = c
        · subst e; exact hc hb
        · have hlt : Lt b c := by
            cases hx : Op.bytesLess b c with
            | true => exact hx
            | false => exact absurd (less_total _ _ hx (by simpa using h)) e
          have := posBy_ge hr (Nat.le_of_eq h3.symm) b1
          rw [show l[posBy (·.1) l b].1 = b from b2] at this
          exact this hlt
  · omega
theorem rangeT_end {l : List (By × α)} (hr : Rise l) (a b : By) : rangeT l a b = (l.take (endT l b)).drop (posT l a) := rangeT_slice hr a b
/-- Two ranges that meet are one. -/
theorem range_parts {l : List (By × α)} (hr : Rise l) {a b c : By} (hab : ¬ Lt b a) (hbc : ¬ Lt c b) :
    (if hasT l b ∧ 0 < (rangeT l a b).length then (rangeT l a b).take ((rangeT l a b).length - 1) else rangeT l a b) ++ rangeT l b c = rangeT l a c := by
  have p1 := posT_mono l hab
  have p2 := posT_mono l hbc
  have e1 := endT_mono hr hbc
  have q1 := endT_le hr b
  have q2 := posT_endT l b
  rw [rangeT_end hr a b, rangeT_end hr b c, rangeT_end hr a c]
  have : (if hasT l b = true ∧ 0 < (List.drop (posT l a) (List.take (endT l b) l)).length then
      (List.drop (posT l a) (List.take (endT l b) l)).take ((List.drop (posT l a) (List.take (endT l b) l)).length - 1)
    else List.drop (posT l a) (List.take (endT l b) l)) = (l.take (posT l b)).drop (posT l a) := by
    by_cases hb : hasT l b = true
    · have he : endT l b = posT l b + 1 := by unfold endT; rw [if_pos hb]
      rw [if_pos ⟨hb, by simp; omega⟩]
      rw [List.take_drop, List.take_take]
      simp only [List.length_drop, List.length_take]
      rw [show min (posT l a + (min (endT l b) l.length - posT l a - 1)) (endT l b) = posT l b from by omega]
    · rw [if_neg (fun h => hb h.1)]
      have he : endT l b = posT l b := by unfold endT; rw [if_neg hb]
      rw [he]
  rw [this]
  exact take_drop_append l p1 (by omega)
theorem rangeT_sub (l : List (By × α)) (a b : By) : (rangeT l a b).length ≤ l.length := List.length_filter_le _ _
end
end Go.Proofs.YtikklmjengkliaaDoor
namespace Go.Proofs.YtikklmjengkliaaDoor
open Go.RowKit

structure Rd where
  name : By
  key : By
  wide : Bool
  last : By
deriving DecidableEq
structure RdOk (r : Rd) : Prop where
  name : NameOk r.name
  key : 1 ≤ r.key.length ∧ r.key.length ≤ 16
  last : if r.wide then 1 ≤ r.last.length ∧ r.last.length ≤ 16 else r.last = []
structure Tx where
  start : Int
  reads : List Rd
  writes : List Wr
def samePl (a b : Wr) : Bool := a.name == b.name && a.key == b.key
theorem samePl_iff {a b : Wr} : samePl a b = true ↔ a.name = b.name ∧ a.key = b.key := by simp [samePl]
structure TxOk (t : Tx) : Prop where
  start : 0 ≤ t.start ∧ t.start ≤ 1048576
  nr : t.reads.length ≤ 20
  nw : t.writes.length ≤ 10
  reads : ∀ r ∈ t.reads, RdOk r
  rdiff : t.reads.Pairwise (· ≠ ·)
  writes : ∀ w ∈ t.writes, WrOk w
  wdiff : t.writes.Pairwise fun a b => samePl a b = false
def noteX (t : Tx) (r : Rd) : Option Tx := if r ∈ t.reads then some t else if t.reads.length = 20 then none else some { t with reads := t.reads ++ [r] }
/-- The place of a write among those of a transaction. -/
def idxW (ws : List Wr) (w : Wr) : Option Nat := ws.findIdx? fun x => samePl x w
def writeX (t : Tx) (w : Wr) : Option Tx := match idxW t.writes w with
  | some i => some { t with writes := t.writes.set i w }
  | none => if t.writes.length = 10 then none else some { t with writes := t.writes ++ [w] }
theorem noteX_ok {t u : Tx} (h : TxOk t) {r : Rd} (hr : RdOk r) (e : noteX t r = some u) : TxOk u := by
  unfold noteX at e
  split at e
  · cases e; exact h
  · rename_i hn
    split at e
    · cases e
    · cases e
      have := h.nr
      refine ⟨h.start, by simp; omega, h.nw, fun x hx => ?_, ?_, h.writes, h.wdiff⟩
      · rcases List.mem_append.1 hx with hx | hx
        · exact h.reads x hx
        · rw [List.mem_singleton.1 hx]; exact hr
      · refine List.pairwise_append.2 ⟨h.rdiff, by simp, fun a ha b hb => ?_⟩
        rw [List.mem_singleton.1 hb]
        rintro rfl; exact hn ha
theorem idxW_some {ws : List Wr} {w : Wr} {i : Nat} (h : idxW ws w = some i) : ∃ hi : i < ws.length, samePl ws[i] w = true := by
  unfold idxW at h
  obtain ⟨h1, h2, _⟩ := List.findIdx?_eq_some_iff_getElem.1 h
  exact ⟨h1, h2⟩
theorem idxW_none {ws : List Wr} {w : Wr} (h : idxW ws w = none) : ∀ x ∈ ws, samePl x w = false := by
  unfold idxW at h
  simpa using List.findIdx?_eq_none_iff.1 h
theorem samePl_trans {a b c : Wr} (h : samePl a b = true) : samePl a c = samePl b c := by
  obtain ⟨h1, h2⟩ := samePl_iff.1 h
  unfold samePl; rw [h1, h2]
theorem samePl_comm (a b : Wr) : samePl a b = samePl b a := by
  rw [Bool.eq_iff_iff, samePl_iff, samePl_iff]; exact ⟨fun h => ⟨h.1.symm, h.2.symm⟩, fun h => ⟨h.1.symm, h.2.symm⟩⟩
theorem set_diff {ws : List Wr} {w : Wr} {i : Nat} (hi : i < ws.length) (hs : samePl ws[i] w = true) (h : ws.Pairwise fun a b => samePl a b = false) : (ws.set i w).Pairwise fun a b => samePl a b = false := by
  rw [List.pairwise_iff_getElem] at h ⊢
  intro a b ha hb hab
  simp only [List.length_set] at ha hb
  have h0 := h a b ha hb hab
  rw [List.getElem_set, List.getElem_set]
  split
  · rename_i e; subst e
    rw [if_neg (by omega), ← samePl_trans hs]; exact h0
  · split
    · rename_i e; subst e
      rw [samePl_comm, ← samePl_trans hs, samePl_comm]; exact h0
    · exact h0
theorem writeX_ok {t u : Tx} (h : TxOk t) {w : Wr} (hw : WrOk w) (e : writeX t w = some u) : TxOk u := by
  unfold writeX at e
  split at e
  · rename_i i hi
    cases e
    obtain ⟨h1, h2⟩ := idxW_some hi
    refine ⟨h.start, h.nr, by simpa using h.nw, h.reads, h.rdiff, fun x hx => ?_, set_diff h1 h2 h.wdiff⟩
    rcases List.mem_or_eq_of_mem_set hx with hx | rfl
    · exact h.writes x hx
    · exact hw
  · rename_i hi
    split at e
    · cases e
    · cases e
      have := h.nw
      refine ⟨h.start, h.nr, by simp; omega, h.reads, h.rdiff, fun x hx => ?_, ?_⟩
      · rcases List.mem_append.1 hx with hx | hx
        · exact h.writes x hx
        · rw [List.mem_singleton.1 hx]; exact hw
      · refine List.pairwise_append.2 ⟨h.wdiff, by simp, fun a ha b hb => ?_⟩
        rw [List.mem_singleton.1 hb]
        exact idxW_none hi a ha
theorem writeX_len {t u : Tx} {w : Wr} (e : writeX t w = some u) : u.writes.length ≤ t.writes.length + 1 ∧ u.reads = t.reads ∧ u.start = t.start ∧ t.writes.length ≤ u.writes.length := by
  unfold writeX at e
  split at e
  · cases e; simp
  · split at e
    · cases e
    · cases e; simp
theorem noteX_len {t u : Tx} {r : Rd} (e : noteX t r = some u) : u.reads.length ≤ t.reads.length + 1 ∧ u.writes = t.writes ∧ u.start = t.start := by
  unfold noteX at e
  split at e
  · cases e; simp
  · split at e
    · cases e
    · cases e; simp
theorem writeX_room {t : Tx} {w : Wr} (h : t.writes.length < 10) : ∃ u, writeX t w = some u := by
  unfold writeX
  cases idxW t.writes w with
  | some i => exact ⟨_, rfl⟩
  | none => simp only []; rw [if_neg (by omega)]; exact ⟨_, rfl⟩
theorem noteX_room {t : Tx} {r : Rd} (h : t.reads.length < 20) : ∃ u, noteX t r = some u := by
  unfold noteX
  split
  · exact ⟨_, rfl⟩
  · rw [if_neg (by omega)]; exact ⟨_, rfl⟩
/-- What a transaction has written at a place. -/
def ownW (ws : List Wr) (n k : By) : Option Wr := ws.find? fun w => w.name == n && w.key == k
/-- The last write to a place is the only one. -/
theorem lastW_own : ∀ {ws : List Wr}, (ws.Pairwise fun a b => samePl a b = false) → ∀ n k, lastW ws n k = ownW ws n k
  | [], _, n, k => rfl
  | w :: ws, h, n, k => by
    obtain ⟨h1, h2⟩ := List.pairwise_cons.1 h
    rw [lastW_cons, lastW_own h2]
    unfold ownW
    rw [List.find?_cons]
    by_cases hw : w.name = n ∧ w.key = k
    · have e : (w.name == n && w.key == k) = true := by simp [hw.1, hw.2]
      rw [e]
      have : List.find? (fun w => w.name == n && w.key == k) ws = none := by
        rw [List.find?_eq_none]
        intro x hx
        have := h1 x hx
        unfold samePl at this
        rw [hw.1, hw.2] at this
        rw [Bool.and_eq_false_iff, beq_eq_false_iff_ne, beq_eq_false_iff_ne] at this
        simp only [Bool.and_eq_true, beq_iff_eq]
        rintro ⟨e1, e2⟩
        rcases this with h | h
        · exact h e1.symm
        · exact h e2.symm
      rw [this]
      simp [hw]
    · have e : (w.name == n && w.key == k) = false := by
        rw [Bool.and_eq_false_iff, beq_eq_false_iff_ne, beq_eq_false_iff_ne]
        by_cases h1 : w.name = n
        · exact .inr fun h2 => hw ⟨h1, h2⟩
        · exact .inl h1
      rw [e]
      simp only [hw, if_false]
      cases List.find? (fun w => w.name == n && w.key == k) ws <;> rfl
def lookX (f : Forest) (t : Tx) (n k : By) : Option By × Bool := match ownW t.writes n k with
  | some w => (if w.gone then none else some w.value, true)
  | none => (getF f n k, false)
def inR (n a b : By) (w : Wr) : Bool := w.name == n && !Op.bytesLess w.key a && !Op.bytesLess b w.key
def scanStep (n a b : By) (l : List Pr) (w : Wr) : Option (List Pr) := if inR n a b w then (if w.gone = false ∧ 60 < (nextT w l).length then none else some (nextT w l)) else some l
def scanFrom (n a b : By) (l : List Pr) : List Wr → Option (List Pr)
  | [] => some l
  | w :: ws => match scanStep n a b l w with
    | some m => scanFrom n a b m ws
    | none => none
def scanX (f : Forest) (t : Tx) (n a b : By) : Option (List Pr) := scanFrom n a b (rangeT (treeF f n) a b) t.writes
theorem rise_rangeT {α : Type} {l : List (By × α)} (hr : Rise l) (a b : By) : Rise (rangeT l a b) := List.Pairwise.filter _ hr
theorem getT_rangeT {α : Type} (l : List (By × α)) (a b k : By) : getT (rangeT l a b) k = if (!Op.bytesLess k a && !Op.bytesLess b k) = true then getT l k else none := by
  induction l with
  | nil => simp [rangeT, getT]
  | cons p l ih =>
    unfold rangeT at *
    rw [List.filter_cons]
    by_cases h : (!Op.bytesLess p.1 a && !Op.bytesLess b p.1) = true
    · rw [if_pos h, getT_cons, getT_cons, ih]
      by_cases e : p.1 = k
      · subst e; rw [if_pos rfl, if_pos h, if_pos rfl]
      · rw [if_neg e, if_neg e]
    · rw [if_neg h, ih, getT_cons]
      by_cases e : p.1 = k
      · subst e; rw [if_neg h, if_neg h]
      · rw [if_neg e]
theorem TreeOk.range {n : Nat} {l : List Pr} (h : TreeOk n l) (a b : By) : TreeOk n (rangeT l a b) :=
  ⟨Nat.le_trans (List.length_filter_le _ _) h.len, fun p hp => h.ok p (List.mem_filter.1 hp).1, rise_rangeT h.rise a b⟩
/-- Scanning goes along with writing. -/
theorem scan_write : ∀ {ws : List Wr} {m : Nat} {f g : Forest} {l : List Pr} (n a b : By), ForestOk m f → (∀ w ∈ ws, WrOk w) → m + ws.length ≤ 60 → applyF f ws = some g → l = rangeT (treeF f n) a b →
    scanFrom n a b l ws = some (rangeT (treeF g n) a b)
  | [], m, f, g, l, n, a, b, _, _, _, h, hl => by cases h; rw [hl]; rfl
  | w :: ws, m, f, g, l, n, a, b, hf, hw, hm, h, hl => by
    unfold applyF at h
    split at h
    · rename_i f1 e
      have hok := writeF_ok hf (hw w (by simp)) e
      have hstep : scanStep n a b l w = some (rangeT (treeF f1 n) a b) := by
        have ht := treeF_ok hf n
        have ht1 := treeF_ok hok n
        have hlr : Rise l := by rw [hl]; exact rise_rangeT ht.rise a b
        unfold scanStep
        by_cases hr : inR n a b w = true
        · rw [if_pos hr]
          unfold inR at hr
          simp only [Bool.and_eq_true, beq_iff_eq] at hr
          have heq : nextT w l = rangeT (treeF f1 n) a b := by
            refine tree_ext (by unfold nextT; split; exact rise_delT hlr _; exact rise_putT hlr _ _) (rise_rangeT ht1.rise a b) fun k => ?_
            rw [nextT_get hlr, getT_rangeT, treeF_writeF hf.rise e, if_pos hr.1.1, nextT_get (treeF_ok hf _).rise, hl, getT_rangeT, hr.1.1]
            by_cases ek : w.key = k
            · subst ek
              rw [if_pos rfl, if_pos rfl, if_pos (show (!Op.bytesLess w.key a && !Op.bytesLess b w.key) = true by rw [hr.1.2, hr.2]; rfl)]
            · rw [if_neg ek, if_neg ek]
          have hlen := (ht1.range a b).len
          rw [heq, if_neg (by simp at hm; omega)]
        · rw [if_neg hr, hl]
          congr 1
          refine tree_ext (rise_rangeT ht.rise a b) (rise_rangeT ht1.rise a b) fun k => ?_
          rw [getT_rangeT, getT_rangeT, treeF_writeF hf.rise e]
          by_cases en : w.name = n
          · rw [if_pos en, nextT_get (treeF_ok hf _).rise, en]
            by_cases ek : w.key = k
            · subst ek
              have : ¬ ((!Op.bytesLess w.key a && !Op.bytesLess b w.key) = true) := fun h => hr (by unfold inR; rw [en]; simpa using h)
              rw [if_neg this, if_neg this]
            · rw [if_neg ek]
          · rw [if_neg en]
      unfold scanFrom
      rw [hstep]
      exact scan_write n a b hok (fun x hx => hw x (by simp [hx])) (by simp at hm; omega) h rfl
    · cases h
theorem look_applied {m : Nat} {f g : Forest} {t : Tx} (hf : ForestOk m f) (ht : TxOk t) (h : applyF f t.writes = some g) (n k : By) : (lookX f t n k).1 = getF g n k := by
  rw [getF_applyF hf ht.writes h, lastW_own ht.wdiff]
  unfold lookX
  cases ownW t.writes n k <;> rfl
/-- Does a write go where a read looked? -/
def touchesX (r : Rd) (w : Wr) : Bool := r.name == w.name && (if r.wide then !Op.bytesLess w.key r.key && !Op.bytesLess r.last w.key else r.key == w.key)
end Go.Proofs.YtikklmjengkliaaDoor
namespace Go.Proofs.YtikklmjengkliaaDoor
open Go.RowKit

def leafT (p : Pr) : By := partsL 1 [p.1, p.2]
def forkT (bit : Nat) (a b : By) : By := partsL 2 [[UInt8.ofNat bit], a, b]
/-- The first bit at which the first and the last one part. -/
def bitT (l : List Pr) : Nat := match l.head?, l.getLast? with
  | some p, some q => (partL p.1 q.1).toNat
  | _, _ => 0
def leftN (bit : Nat) (l : List Pr) : Nat := (l.takeWhile fun p => !bitL p.1 bit).length
theorem leftN_le (bit : Nat) (l : List Pr) : leftN bit l ≤ l.length := (List.takeWhile_prefix _).length_le
def rootN : Nat → List Pr → By
  | 0, _ => partsL 0 []
  | _ + 1, [] => partsL 0 []
  | _ + 1, [p] => leafT p
  | n + 1, p :: q :: l => forkT (bitT (p :: q :: l)) (rootN n ((p :: q :: l).take (leftN (bitT (p :: q :: l)) (p :: q :: l)))) (rootN n ((p :: q :: l).drop (leftN (bitT (p :: q :: l)) (p :: q :: l))))
def rootT (l : List Pr) : By := rootN l.length l
/-- A key between two that part agrees with both up to there. -/
theorem bit_between {a x b : By} {n : Nat} (h : partL a b = n) (h1 : a = x ∨ Lt a x) (h2 : x = b ∨ Lt x b) : ∀ j, j < n → bitL x j = bitL a j := by
  rcases partL_spec a b with ⟨h0, _⟩ | ⟨m, m1, m2, m3, m4⟩
  · omega
  have hm : m = n := by omega
  subst hm
  intro j hj
  have key : ∀ j, j < m → (∀ i, i < j → bitL x i = bitL a i) → bitL x j = bitL a j := by
    intro j hj ih
    cases hx : bitL x j with
    | true =>
      cases ha : bitL a j with
      | true => rfl
      | false =>
        exfalso
        have hb : bitL b j = false := by rw [← m4 j hj]; exact ha
        have := key_less b x j (fun i hi => by rw [← m4 i (by omega)]; exact (ih i hi).symm) hb hx
        rcases h2 with rfl | h2
        · rw [less_irrefl] at this; cases this
        · rw [less_asymm _ _ h2] at this; cases this
    | false =>
      cases ha : bitL a j with
      | false => rfl
      | true =>
        exfalso
        have := key_less x a j (fun i hi => ih i hi) hx ha
        rcases h1 with rfl | h1
        · rw [less_irrefl] at this; cases this
        · rw [less_asymm _ _ h1] at this; cases this
  revert j
  intro j
  induction j using Nat.strongRecOn with
  | _ j ih => exact fun hj => key j hj fun i hi => ih i hi (by omega)
structure KeysOk (l : List Pr) : Prop where
  key : ∀ p ∈ l, 1 ≤ p.1.length ∧ p.1.length ≤ 16
  rise : Rise l
theorem KeysOk.sub {l m : List Pr} (h : KeysOk l) (hs : m.Sublist l) : KeysOk m := ⟨fun p hp => h.key p (hs.subset hp), h.rise.sublist hs⟩
theorem bitT_spec {l : List Pr} (h : KeysOk l) (h2 : 2 ≤ l.length) : bitT l < 145 ∧ partL (l[0]'(by omega)).1 (l[l.length - 1]'(by omega)).1 = bitT l ∧ bitL (l[0]'(by omega)).1 (bitT l) = false ∧ bitL (l[l.length - 1]'(by omega)).1 (bitT l) = true := by
  have e1 : l.head? = some (l[0]'(by omega)) := by rw [List.head?_eq_getElem?, List.getElem?_eq_getElem]
  have e2 : l.getLast? = some (l[l.length - 1]'(by omega)) := by rw [List.getLast?_eq_getElem?, List.getElem?_eq_getElem]
  have hlt : Lt (l[0]'(by omega)).1 (l[l.length - 1]'(by omega)).1 := List.pairwise_iff_getElem.1 h.rise 0 (l.length - 1) (by omega) (by omega) (by omega)
  have hb : bitT l = (partL (l[0]'(by omega)).1 (l[l.length - 1]'(by omega)).1).toNat := by unfold bitT; rw [e1, e2]
  generalize hx : (l[0]'(by omega)).1 = x at *
  generalize hy : (l[l.length - 1]'(by omega)).1 = y at *
  have hxl : x.length ≤ 16 := by rw [← hx]; exact (h.key _ (List.getElem_mem _)).2
  have hyl : y.length ≤ 16 := by rw [← hy]; exact (h.key _ (List.getElem_mem _)).2
  rcases partL_spec x y with ⟨h0, _⟩ | ⟨m, m1, m2, m3, m4⟩
  · exact absurd (partL_eq hxl hyl h0) (less_ne hlt)
  · have hbm : bitT l = m := by rw [hb, m2]; rfl
    rw [hbm]
    have e := partL_less (a := x) (b := y) m2
    rw [hlt] at e
    refine ⟨m1, m2, ?_, e⟩
    rw [e] at m3
    cases hq : bitL x m with
    | false => rfl
    | true => rw [hq] at m3; exact absurd rfl m3
theorem side_bits {l : List Pr} (h : KeysOk l) (h2 : 2 ≤ l.length) : ∀ (i : Nat) (hi : i < l.length), ∀ j, j < bitT l → bitL l[i].1 j = bitL (l[0]'(by omega)).1 j := by
  obtain ⟨b1, b2, b3, b4⟩ := bitT_spec h h2
  intro i hi
  refine bit_between b2 ?_ ?_
  · by_cases h0 : i = 0
    · subst h0; exact .inl rfl
    · exact .inr (List.pairwise_iff_getElem.1 h.rise 0 i (by omega) hi (by omega))
  · by_cases h0 : i = l.length - 1
    · subst h0; exact .inl rfl
    · exact .inr (List.pairwise_iff_getElem.1 h.rise i (l.length - 1) hi (by omega) (by omega))
/-- Those with 0 at the bit stand ahead of those with 1. -/
theorem side_mono {l : List Pr} (h : KeysOk l) (h2 : 2 ≤ l.length) {i k : Nat} (hi : i < l.length) (hk : k < l.length) (hik : i < k) (hb : bitL l[i].1 (bitT l) = true) : bitL l[k].1 (bitT l) = true := by
  cases hc : bitL l[k].1 (bitT l) with
  | true => rfl
  | false =>
    have := key_less l[k].1 l[i].1 (bitT l) (fun j hj => by rw [side_bits h h2 k hk j hj, side_bits h h2 i hi j hj]) hc hb
    have h3 := List.pairwise_iff_getElem.1 h.rise i k hi hk hik
    rw [less_asymm _ _ h3] at this
    cases this
theorem leftN_lt {bit : Nat} {l : List Pr} {i : Nat} (hi : i < leftN bit l) (h : i < l.length) : bitL l[i].1 bit = false := by
  unfold leftN at hi
  have e : (l.takeWhile fun p => !bitL p.1 bit)[i] = l[i] := (List.takeWhile_prefix _).getElem hi
  have hp := List.all_eq_true.1 (List.all_takeWhile (p := fun p : Pr => !bitL p.1 bit) (l := l)) _ (List.getElem_mem hi)
  rw [e] at hp
  simpa using hp
theorem leftN_at {bit : Nat} : ∀ {l : List Pr} (h : leftN bit l < l.length), bitL l[leftN bit l].1 bit = true
  | [], h => by simp at h
  | p :: l, h => by
    cases hb : bitL p.1 bit with
    | true =>
      have : leftN bit (p :: l) = 0 := by simp [leftN, hb]
      simp only [this, List.getElem_cons_zero]
      exact hb
    | false =>
      have e : leftN bit (p :: l) = leftN bit l + 1 := by simp [leftN, hb]
      simp only [e, List.getElem_cons_succ]
      exact leftN_at (by rw [e] at h; simpa using h)
theorem leftN_spec {l : List Pr} (h : KeysOk l) (h2 : 2 ≤ l.length) : 0 < leftN (bitT l) l ∧ leftN (bitT l) l < l.length := by
  obtain ⟨b1, b2, b3, b4⟩ := bitT_spec h h2
  constructor
  · rcases Nat.eq_zero_or_pos (leftN (bitT l) l) with h0 | h0
    · have := leftN_at (bit := bitT l) (l := l) (by omega)
      simp only [h0] at this
      rw [b3] at this; cases this
    · exact h0
  · rcases Nat.lt_or_ge (leftN (bitT l) l) l.length with h0 | h0
    · exact h0
    · have := leftN_lt (bit := bitT l) (l := l) (i := l.length - 1) (by omega) (by omega)
      rw [b4] at this; cases this
theorem leftN_unique {bit : Nat} {l : List Pr} {n : Nat} (hn : n ≤ l.length) (h1 : ∀ (i : Nat) (h : i < l.length), i < n → bitL l[i].1 bit = false) (h2 : ∀ h : n < l.length, bitL l[n].1 bit = true) : leftN bit l = n := by
  rcases Nat.lt_trichotomy (leftN bit l) n with h | h | h
  · have := leftN_at (bit := bit) (l := l) (by omega)
    rw [h1 _ _ h] at this; cases this
  · exact h
  · have hl := leftN_le bit l
    have := leftN_lt (bit := bit) h (by omega)
    rw [h2 (by omega)] at this; cases this
/-- Enough fuel is enough. -/
theorem rootN_fuel : ∀ (n m : Nat) (l : List Pr), KeysOk l → l.length ≤ n → l.length ≤ m → rootN n l = rootN m l
  | 0, 0, _, _, _, _ => rfl
  | 0, m + 1, [], _, _, _ => rfl
  | n + 1, 0, [], _, _, _ => rfl
  | n + 1, m + 1, [], _, _, _ => rfl
  | 0, _, _ :: _, _, h, _ => by simp at h
  | _, 0, _ :: _, _, _, h => by simp at h
  | n + 1, m + 1, [p], _, _, _ => rfl
  | n + 1, m + 1, p :: q :: l, hk, h1, h2 => by
    have hs := leftN_spec hk (by simp)
    unfold rootN
    generalize hL : p :: q :: l = L at *
    have e1 : (L.take (leftN (bitT L) L)).length < L.length := by rw [List.length_take]; omega
    have e2 : (L.drop (leftN (bitT L) L)).length < L.length := by rw [List.length_drop]; omega
    rw [rootN_fuel n m (L.take (leftN (bitT L) L)) (hk.sub (List.take_sublist _ _)) (by omega) (by omega), rootN_fuel n m (L.drop (leftN (bitT L) L)) (hk.sub (List.drop_sublist _ _)) (by omega) (by omega)]
theorem rootT_nil : rootT [] = partsL 0 [] := rfl
theorem rootT_one (p : Pr) : rootT [p] = leafT p := rfl
theorem rootT_fork {l : List Pr} (h : KeysOk l) (h2 : 2 ≤ l.length) : rootT l = forkT (bitT l) (rootT (l.take (leftN (bitT l) l))) (rootT (l.drop (leftN (bitT l) l))) := by
  have hs := leftN_spec h h2
  have e1 : (l.take (leftN (bitT l) l)).length < l.length := by rw [List.length_take]; omega
  have e2 : (l.drop (leftN (bitT l) l)).length < l.length := by rw [List.length_drop]; omega
  match l, h2 with
  | p :: q :: l, _ =>
    unfold rootT
    rw [rootN_fuel _ (l.length + 1) _ (h.sub (List.take_sublist _ _)) (Nat.le_refl _) (by simp at e1 ⊢; omega), rootN_fuel _ (l.length + 1) _ (h.sub (List.drop_sublist _ _)) (Nat.le_refl _) (by simp at e2 ⊢; omega)]
    rfl
theorem rootT_len (l : List Pr) : (rootT l).length = 32 := by
  unfold rootT
  have : ∀ n l, (rootN n l).length = 32 := by
    intro n l
    match n, l with
    | 0, _ => exact partsL_len _ _
    | _ + 1, [] => exact partsL_len _ _
    | _ + 1, [p] => exact partsL_len _ _
    | _ + 1, _ :: _ :: _ => exact partsL_len _ _
  exact this _ _
theorem TreeOk.keys {n : Nat} {l : List Pr} (h : TreeOk n l) : KeysOk l := ⟨fun p hp => ⟨(h.ok p hp).1, (h.ok p hp).2.1⟩, h.rise⟩
end Go.Proofs.YtikklmjengkliaaDoor
namespace Go.Proofs.YtikklmjengkliaaDoor
open Go.RowKit

structure Stp where
  bit : Nat
  right : Bool
  other : By
def sideT (bit : Nat) (r : Bool) (l : List Pr) : List Pr := if r then l.drop (leftN bit l) else l.take (leftN bit l)
def stepsN : Nat → List Pr → By → List Stp × Pr
  | 0, l, _ => ([], l.headD ([], []))
  | n + 1, l, k => if l.length ≤ 1 then ([], l.headD ([], [])) else
    let q := stepsN n (sideT (bitT l) (bitL k (bitT l)) l) k
    (⟨bitT l, bitL k (bitT l), rootT (sideT (bitT l) (!bitL k (bitT l)) l)⟩ :: q.1, q.2)
def up1 (s : Stp) (d : By) : By := if s.right then forkT s.bit s.other d else forkT s.bit d s.other
def upN (s : List Stp) (p : Pr) : By := s.foldr up1 (leafT p)
theorem sideT_sub (bit : Nat) (r : Bool) (l : List Pr) : (sideT bit r l).Sublist l := by
  unfold sideT; split
  · exact List.drop_sublist _ _
  · exact List.take_sublist _ _
theorem sideT_len {l : List Pr} (h : KeysOk l) (h2 : 2 ≤ l.length) (r : Bool) : 1 ≤ (sideT (bitT l) r l).length ∧ (sideT (bitT l) r l).length < l.length := by
  have := leftN_spec h h2
  unfold sideT; split <;> simp only [List.length_drop, List.length_take] <;> omega
theorem sideT_bit {l : List Pr} (h : KeysOk l) (h2 : 2 ≤ l.length) {r : Bool} {p : Pr} (hp : p ∈ sideT (bitT l) r l) : bitL p.1 (bitT l) = r := by
  unfold sideT at hp
  cases r with
  | true =>
    simp only [if_true] at hp
    obtain ⟨i, hi, rfl⟩ := List.mem_iff_getElem.1 hp
    rw [List.length_drop] at hi
    rw [List.getElem_drop]
    have h0 := leftN_at (bit := bitT l) (l := l) (by omega)
    by_cases hz : i = 0
    · subst hz; simpa using h0
    · exact side_mono h h2 (i := leftN (bitT l) l) (k := leftN (bitT l) l + i) (by omega) (by omega) (by omega) h0
  | false =>
    simp only [Bool.false_eq_true, if_false] at hp
    obtain ⟨i, hi, rfl⟩ := List.mem_iff_getElem.1 hp
    rw [List.length_take] at hi
    rw [List.getElem_take]
    exact leftN_lt (by omega) (by omega)
theorem sideT_mem {l : List Pr} (h : KeysOk l) (h2 : 2 ≤ l.length) {p : Pr} (hp : p ∈ l) : p ∈ sideT (bitT l) (bitL p.1 (bitT l)) l := by
  have h3 : p ∈ l.take (leftN (bitT l) l) ++ l.drop (leftN (bitT l) l) := by rw [List.take_append_drop]; exact hp
  rcases List.mem_append.1 h3 with h4 | h4
  · have := sideT_bit h h2 (r := false) (p := p) (by unfold sideT; simpa using h4)
    rw [this]; unfold sideT; simpa using h4
  · have := sideT_bit h h2 (r := true) (p := p) (by unfold sideT; simpa using h4)
    rw [this]; unfold sideT; simpa using h4
theorem agree_bits {l : List Pr} (h : KeysOk l) (h2 : 2 ≤ l.length) {p : Pr} (hp : p ∈ l) {j : Nat} (hj : j < bitT l) : bitL p.1 j = bitL (l[0]'(by omega)).1 j := by
  obtain ⟨i, hi, rfl⟩ := List.mem_iff_getElem.1 hp
  exact side_bits h h2 i hi j hj
/-- All pairs agree in all bits up to B. -/
def Agree (B : Nat) (l : List Pr) : Prop := ∀ p ∈ l, ∀ q ∈ l, ∀ j, j < B → bitL p.1 j = bitL q.1 j
theorem bitT_ge {l : List Pr} (h : KeysOk l) (h2 : 2 ≤ l.length) {B : Nat} (ha : Agree B l) : B ≤ bitT l := by
  obtain ⟨b1, b2, b3, b4⟩ := bitT_spec h h2
  rcases Nat.lt_or_ge (bitT l) B with hlt | hge
  · have := ha _ (List.getElem_mem (show 0 < l.length by omega)) _ (List.getElem_mem (show l.length - 1 < l.length by omega)) _ hlt
    rw [b3, b4] at this; cases this
  · exact hge
theorem sideT_agree {l : List Pr} (h : KeysOk l) (h2 : 2 ≤ l.length) (r : Bool) : Agree (bitT l + 1) (sideT (bitT l) r l) := by
  intro p hp q hq j hj
  by_cases e : j = bitT l
  · subst e; rw [sideT_bit h h2 hp, sideT_bit h h2 hq]
  · have hp' := (sideT_sub _ _ _).subset hp
    have hq' := (sideT_sub _ _ _).subset hq
    rw [agree_bits h h2 hp' (by omega), agree_bits h h2 hq' (by omega)]
/-- Steps that rise from a place on. -/
def RiseS : Nat → List Stp → Prop
  | _, [] => True
  | b, s :: l => b ≤ s.bit ∧ s.bit < 145 ∧ s.other.length = 32 ∧ RiseS (s.bit + 1) l
theorem up_root : ∀ (n : Nat) (l : List Pr) (k : By), KeysOk l → 1 ≤ l.length → l.length ≤ n + 1 → upN (stepsN n l k).1 (stepsN n l k).2 = rootT l
  | 0, [p], _, _, _, _ => rfl
  | 0, [], _, _, h, _ => by simp at h
  | 0, _ :: _ :: _, _, _, _, h => by simp at h
  | n + 1, l, k, h, h1, hn => by
    unfold stepsN
    by_cases hl : l.length ≤ 1
    · rw [if_pos hl]
      obtain ⟨p, rfl⟩ := List.length_eq_one_iff.1 (show l.length = 1 by omega)
      rfl
    · rw [if_neg hl]
      have h2 : 2 ≤ l.length := by omega
      have hs := sideT_len h h2 (bitL k (bitT l))
      have ih := up_root n (sideT (bitT l) (bitL k (bitT l)) l) k (h.sub (sideT_sub _ _ _)) hs.1 (by omega)
      show up1 _ (upN _ _) = _
      rw [ih, rootT_fork h h2]
      unfold up1
      cases hb : bitL k (bitT l) with
      | true => simp [sideT]
      | false => simp [sideT]
theorem steps_rise : ∀ (n : Nat) (l : List Pr) (k : By) (B : Nat), KeysOk l → 1 ≤ l.length → Agree B l → RiseS B (stepsN n l k).1
  | 0, _, _, _, _, _, _ => trivial
  | n + 1, l, k, B, h, h1, ha => by
    unfold stepsN
    by_cases hl : l.length ≤ 1
    · rw [if_pos hl]; trivial
    · rw [if_neg hl]
      have h2 : 2 ≤ l.length := by omega
      have hs := sideT_len h h2 (bitL k (bitT l))
      exact ⟨bitT_ge h h2 ha, (bitT_spec h h2).1, rootT_len _, steps_rise n _ k _ (h.sub (sideT_sub _ _ _)) hs.1 (sideT_agree h h2 _)⟩
theorem steps_pair : ∀ (n : Nat) (l : List Pr) (k : By), KeysOk l → 1 ≤ l.length → (stepsN n l k).2 ∈ l
  | 0, [], _, _, h => by simp at h
  | 0, p :: l, _, _, _ => by simp [stepsN]
  | n + 1, l, k, h, h1 => by
    unfold stepsN
    by_cases hl : l.length ≤ 1
    · rw [if_pos hl]
      obtain ⟨p, rfl⟩ := List.length_eq_one_iff.1 (show l.length = 1 by omega)
      simp
    · rw [if_neg hl]
      have h2 : 2 ≤ l.length := by omega
      have hs := sideT_len h h2 (bitL k (bitT l))
      exact (sideT_sub _ _ _).subset (steps_pair n _ k (h.sub (sideT_sub _ _ _)) hs.1)
theorem steps_way : ∀ (n : Nat) (l : List Pr) (k : By), KeysOk l → 1 ≤ l.length → ∀ s ∈ (stepsN n l k).1, bitL k s.bit = s.right ∧ bitL (stepsN n l k).2.1 s.bit = s.right
  | 0, _, _, _, _, s, hs => by simp [stepsN] at hs
  | n + 1, l, k, h, h1, s, hs => by
    unfold stepsN at hs ⊢
    by_cases hl : l.length ≤ 1
    · rw [if_pos hl] at hs; simp at hs
    · rw [if_neg hl] at hs ⊢
      have h2 : 2 ≤ l.length := by omega
      have hsl := sideT_len h h2 (bitL k (bitT l))
      rcases List.mem_cons.1 hs with rfl | hs
      · exact ⟨rfl, sideT_bit h h2 (steps_pair n _ k (h.sub (sideT_sub _ _ _)) hsl.1)⟩
      · exact steps_way n _ k (h.sub (sideT_sub _ _ _)) hsl.1 s hs
/-- Whoever goes the same way and is there is the one at its end. -/
theorem steps_found : ∀ (n : Nat) (l : List Pr) (k : By), KeysOk l → 1 ≤ l.length → l.length ≤ n + 1 → ∀ p ∈ l, (∀ s ∈ (stepsN n l k).1, bitL p.1 s.bit = s.right) → (stepsN n l k).2 = p
  | 0, [q], _, _, _, _, p, hp, _ => by simp at hp; simp [stepsN, hp]
  | 0, [], _, _, h, _, _, _, _ => by simp at h
  | 0, _ :: _ :: _, _, _, _, h, _, _, _ => by simp at h
  | n + 1, l, k, h, h1, hn, p, hp, hw => by
    unfold stepsN at hw ⊢
    by_cases hl : l.length ≤ 1
    · rw [if_pos hl]
      obtain ⟨q, rfl⟩ := List.length_eq_one_iff.1 (show l.length = 1 by omega)
      simp at hp; simp [hp]
    · rw [if_neg hl] at hw ⊢
      have h2 : 2 ≤ l.length := by omega
      have hs := sideT_len h h2 (bitL k (bitT l))
      have hb := hw _ (List.mem_cons_self ..)
      simp only at hb
      refine steps_found n _ k (h.sub (sideT_sub _ _ _)) hs.1 (by omega) p ?_ (fun s hs => hw s (List.mem_cons_of_mem _ hs))
      have := sideT_mem h h2 hp
      rwa [hb] at this
theorem steps_len : ∀ (n : Nat) (l : List Pr) (k : By), KeysOk l → 1 ≤ l.length → (stepsN n l k).1.length < l.length
  | 0, l, _, _, h1 => by simp [stepsN]; omega
  | n + 1, l, k, h, h1 => by
    unfold stepsN
    by_cases hl : l.length ≤ 1
    · rw [if_pos hl]; simp; omega
    · rw [if_neg hl]
      have h2 : 2 ≤ l.length := by omega
      have hs := sideT_len h h2 (bitL k (bitT l))
      have := steps_len n _ k (h.sub (sideT_sub (bitT l) (bitL k (bitT l)) l)) hs.1
      simp; omega
/-- A proof. -/
structure Prf where
  empty : Bool
  steps : List Stp
  pair : Pr
def proveT (l : List Pr) (k : By) : Prf := if l = [] then ⟨true, [], ([], [])⟩ else ⟨false, (stepsN l.length l k).1, (stepsN l.length l k).2⟩
def upT (p : Prf) : By := if p.empty then rootT [] else upN p.steps p.pair
def wayB (k pk : By) : Int → List Stp → Bool
  | _, [] => true
  | last, s :: l => decide (last < s.bit) && decide (s.bit < 145) && (bitL k s.bit == s.right) && (bitL pk s.bit == s.right) && (s.other.length == 32) && wayB k pk s.bit l
/-- What Check tells of a proof, for a key that may be. -/
def checkP (k : By) (p : Prf) : Bool := if p.empty then p.steps.isEmpty && p.pair.1.isEmpty && p.pair.2.isEmpty else (decide (1 ≤ p.pair.1.length) && decide (p.pair.1.length ≤ 16) && decide (p.pair.2.length ≤ 32)) && wayB k p.pair.1 (-1) p.steps
theorem wayB_of {k pk : By} : ∀ {s : List Stp} {B : Nat}, RiseS B s → (∀ x ∈ s, bitL k x.bit = x.right ∧ bitL pk x.bit = x.right) → wayB k pk ((B : Int) - 1) s = true
  | [], _, _, _ => rfl
  | x :: s, B, h, hw => by
    obtain ⟨h1, h2, h3, h4⟩ := h
    have ih := wayB_of h4 (fun y hy => hw y (List.mem_cons_of_mem _ hy))
    have hx := hw x (List.mem_cons_self ..)
    rw [show ((x.bit + 1 : Nat) : Int) - 1 = x.bit from by omega] at ih
    unfold wayB
    rw [ih]
    simp [hx.1, hx.2, h2, h3]
    omega
theorem wayB_way {k pk : By} : ∀ {s : List Stp} {b : Int}, wayB k pk b s = true → ∀ x ∈ s, bitL k x.bit = x.right ∧ bitL pk x.bit = x.right
  | [], _, _, x, hx => by simp at hx
  | y :: s, b, h, x, hx => by
    unfold wayB at h
    simp only [Bool.and_eq_true, beq_iff_eq] at h
    rcases List.mem_cons.1 hx with rfl | hx
    · exact ⟨h.1.1.1.2, h.1.1.2⟩
    · exact wayB_way h.2 x hx
theorem prove_up {n : Nat} {l : List Pr} (h : TreeOk n l) (k : By) : upT (proveT l k) = rootT l := by
  unfold proveT upT
  by_cases e : l = []
  · subst e; rfl
  · rw [if_neg e]
    exact up_root _ l k h.keys (List.length_pos_iff.2 e) (by omega)
theorem prove_check {n : Nat} {l : List Pr} (h : TreeOk n l) (k : By) : checkP k (proveT l k) = true := by
  unfold proveT checkP
  by_cases e : l = []
  · rw [if_pos e]; rfl
  · rw [if_neg e]
    have h1 := List.length_pos_iff.2 e
    have hp := h.ok _ (steps_pair l.length l k h.keys h1)
    have hr := wayB_of (steps_rise l.length l k 0 h.keys h1 (fun p _ q _ j hj => by omega)) (steps_way l.length l k h.keys h1)
    simp only [Bool.false_eq_true, if_false]
    rw [show ((0 : Nat) : Int) - 1 = -1 from rfl] at hr
    rw [hr]
    simp [hp.1, hp.2.1, hp.2.2]
/-- What a proof that holds tells of a key. -/
def tellP (k : By) (p : Prf) : Option By := if p.empty = true ∨ p.pair.1 ≠ k then none else some p.pair.2
theorem prove_tells {n : Nat} {l : List Pr} (h : TreeOk n l) (k b : By) (hc : checkP b (proveT l k) = true) : tellP b (proveT l k) = getT l b := by
  unfold proveT checkP tellP at *
  by_cases e : l = []
  · subst e; rfl
  · rw [if_neg e] at *
    have h1 := List.length_pos_iff.2 e
    simp only [Bool.false_eq_true, if_false, Bool.and_eq_true] at hc
    have hway := wayB_way hc.2
    have hm := steps_pair l.length l k h.keys h1
    by_cases hb : (stepsN l.length l k).2.1 = b
    · rw [if_neg (by simp [hb])]
      have := mem_getT h.rise hm
      rw [hb] at this
      exact this.symm
    · rw [if_pos (.inr hb)]
      cases hg : getT l b with
      | none => rfl
      | some v =>
        exfalso
        have hmem := getT_mem hg
        have := steps_found l.length l k h.keys h1 (by omega) (b, v) hmem (fun s hs => (hway s hs).1)
        rw [this] at hb
        exact hb rfl
end Go.Proofs.YtikklmjengkliaaDoor
namespace Go.Proofs.YtikklmjengkliaaDoor
open Go.RowKit

def b8 (n : Nat) : UInt8 := UInt8.ofNat n
theorem b8_toNat {n : Nat} (h : n < 256) : (b8 n).toNat = n := by simp [b8]; omega
theorem b8_back (x : UInt8) : b8 x.toNat = x := by simp [b8]
def encPart (p : By) : By := b8 p.length :: p
def encWr (w : Wr) : By := encPart w.name ++ (encPart w.key ++ if w.gone then [255] else encPart w.value)
def encCm (turn : Nat) (ws : List Wr) : By := b8 (turn / 65536) :: b8 (turn / 256) :: b8 turn :: b8 ws.length :: ws.flatMap encWr
structure Rr where
  rest : By
  short : Bool
def takeR (n : Nat) (r : Rr) : By × Rr := if r.short = true ∨ r.rest.length < n then (List.replicate n 0, ⟨r.rest, true⟩) else (r.rest.take n, ⟨r.rest.drop n, false⟩)
def byteR (r : Rr) : Nat × Rr := (((takeR 1 r).1.headD 0).toNat, (takeR 1 r).2)
def partR (r : Rr) : By × Rr := takeR (byteR r).1 (byteR r).2
def wrR (r : Rr) : Wr × Rr :=
  let a := partR r
  let b := partR a.2
  let c := byteR b.2
  if c.1 = 255 then (⟨a.1, b.1, true, []⟩, c.2) else let d := takeR c.1 c.2; (⟨a.1, b.1, false, d.1⟩, d.2)
def wrsR : Nat → Rr → List Wr × Rr
  | 0, r => ([], r)
  | n + 1, r => let a := wrR r; let b := wrsR n a.2; (a.1 :: b.1, b.2)
def decCm (b : By) : Nat × List Wr × Rr :=
  let x := byteR ⟨b, false⟩
  let y := byteR x.2
  let z := byteR y.2
  let n := byteR z.2
  let l := wrsR n.1 n.2
  (x.1 * 65536 + y.1 * 256 + z.1, l.1, l.2)
/-- What is read of a beginning is read of the whole. -/
theorem takeR_more {n : Nat} {b t : By} {r : Rr} (h : (takeR n ⟨b, false⟩).2 = r) (hs : r.short = false) : takeR n ⟨b ++ t, false⟩ = ((takeR n ⟨b, false⟩).1, ⟨r.rest ++ t, false⟩) := by
  subst h
  unfold takeR at *
  by_cases hl : b.length < n
  · simp [hl] at hs
  · have h2 : ¬ (b ++ t).length < n := by simp; omega
    simp only [Bool.false_eq_true, false_or, hl, if_false, h2]
    rw [List.take_append_of_le_length (by omega), List.drop_append_of_le_length (by omega)]
theorem takeR_short {n : Nat} {r : Rr} (h : r.short = true) : (takeR n r).2.short = true := by unfold takeR; rw [if_pos (.inl h)]
theorem takeR_of {n : Nat} {r : Rr} (h : (takeR n r).2.short = false) : r.short = false ∧ n ≤ r.rest.length ∧ r.rest = (takeR n r).1 ++ (takeR n r).2.rest ∧ (takeR n r).1.length = n := by
  unfold takeR at *
  by_cases hc : r.short = true ∨ r.rest.length < n
  · rw [if_pos hc] at h; cases h
  · rw [if_neg hc] at h ⊢
    have h1 : r.short = false := by cases hx : r.short with | false => rfl | true => exact absurd (.inl hx) hc
    have h2 : ¬ r.rest.length < n := fun k => hc (.inr k)
    exact ⟨h1, by omega, by simp, by simp; omega⟩
/-- A reader: what it reads of a beginning it reads of the whole; once short it stays so. -/
structure Reads {α : Type} (f : Rr → α × Rr) : Prop where
  more : ∀ b t, (f ⟨b, false⟩).2.short = false → f ⟨b ++ t, false⟩ = ((f ⟨b, false⟩).1, ⟨(f ⟨b, false⟩).2.rest ++ t, false⟩)
  short : ∀ r, r.short = true → (f r).2.short = true
theorem Rr.eta (r : Rr) (h : r.short = false) : r = ⟨r.rest, false⟩ := by cases r; simp at h; subst h; rfl
theorem reads_take (n : Nat) : Reads (takeR n) := ⟨fun _ _ h => takeR_more rfl h, fun _ h => takeR_short h⟩
theorem Reads.bind {α β : Type} {f : Rr → α × Rr} {g : α → Rr → β × Rr} (hf : Reads f) (hg : ∀ a, Reads (g a)) : Reads fun r => g (f r).1 (f r).2 := by
  refine ⟨fun b t h => ?_, fun r h => (hg _).short _ (hf.short r h)⟩
  cases hs : (f ⟨b, false⟩).2.short with
  | true => rw [(hg _).short _ hs] at h; cases h
  | false =>
    rw [hf.more b t hs]
    have e := Rr.eta _ hs
    rw [e] at h ⊢
    exact (hg _).more _ t h
theorem Reads.map {α β : Type} {f : Rr → α × Rr} (hf : Reads f) (g : α → β) : Reads fun r => (g (f r).1, (f r).2) := by
  refine ⟨fun b t h => ?_, fun r h => hf.short r h⟩
  rw [hf.more b t h]
set_option linter.unusedVariables false
theorem reads_pure {α : Type} (a : α) : Reads fun r => (a, r) := ⟨by intros; rfl, fun _r h => h⟩
theorem reads_byte : Reads byteR := (reads_take 1).map fun b => (b.headD 0).toNat
theorem reads_part : Reads partR := Reads.bind (g := fun n r => takeR n r) reads_byte fun n => reads_take n
theorem reads_wr : Reads wrR := by
  have h : Reads fun r => (fun (a : By) (r : Rr) => (fun (b : By) (r : Rr) => (fun (c : Nat) (r : Rr) => if c = 255 then ((⟨a, b, true, []⟩ : Wr), r) else ((⟨a, b, false, (takeR c r).1⟩ : Wr), (takeR c r).2)) (byteR r).1 (byteR r).2) (partR r).1 (partR r).2) (partR r).1 (partR r).2 := by
    refine Reads.bind (f := partR) (g := fun a r => (fun (b : By) (r : Rr) => (fun (c : Nat) (r : Rr) => if c = 255 then ((⟨a, b, true, []⟩ : Wr), r) else ((⟨a, b, false, (takeR c r).1⟩ : Wr), (takeR c r).2)) (byteR r).1 (byteR r).2) (partR r).1 (partR r).2) reads_part fun a => ?_
    refine Reads.bind (f := partR) (g := fun b r => (fun (c : Nat) (r : Rr) => if c = 255 then ((⟨a, b, true, []⟩ : Wr), r) else ((⟨a, b, false, (takeR c r).1⟩ : Wr), (takeR c r).2)) (byteR r).1 (byteR r).2) reads_part fun b => ?_
    refine Reads.bind (f := byteR) (g := fun c r => if c = 255 then ((⟨a, b, true, []⟩ : Wr), r) else ((⟨a, b, false, (takeR c r).1⟩ : Wr), (takeR c r).2)) reads_byte fun c => ?_
    by_cases hc : c = 255
    · simp only [hc, if_true]; exact reads_pure _
    · simp only [hc, if_false]; exact (reads_take c).map fun v => (⟨a, b, false, v⟩ : Wr)
  exact h
theorem reads_wrs : ∀ n, Reads (wrsR n)
  | 0 => reads_pure []
  | n + 1 => Reads.bind (f := wrR) (g := fun a r => (a :: (wrsR n r).1, (wrsR n r).2)) reads_wr fun a => (reads_wrs n).map fun l => a :: l
def cmR (r : Rr) : (Nat × List Wr) × Rr :=
  let x := byteR r
  let y := byteR x.2
  let z := byteR y.2
  let n := byteR z.2
  let l := wrsR n.1 n.2
  ((x.1 * 65536 + y.1 * 256 + z.1, l.1), l.2)
theorem reads_cm : Reads cmR := by
  refine Reads.bind (f := byteR) (g := fun x r => (((x * 65536 + (byteR r).1 * 256 + (byteR (byteR r).2).1, (wrsR (byteR (byteR (byteR r).2).2).1 (byteR (byteR (byteR r).2).2).2).1) : Nat × List Wr), (wrsR (byteR (byteR (byteR r).2).2).1 (byteR (byteR (byteR r).2).2).2).2)) reads_byte fun x => ?_
  refine Reads.bind (f := byteR) (g := fun y r => (((x * 65536 + y * 256 + (byteR r).1, (wrsR (byteR (byteR r).2).1 (byteR (byteR r).2).2).1) : Nat × List Wr), (wrsR (byteR (byteR r).2).1 (byteR (byteR r).2).2).2)) reads_byte fun y => ?_
  refine Reads.bind (f := byteR) (g := fun z r => (((x * 65536 + y * 256 + z, (wrsR (byteR r).1 (byteR r).2).1) : Nat × List Wr), (wrsR (byteR r).1 (byteR r).2).2)) reads_byte fun z => ?_
  refine Reads.bind (f := byteR) (g := fun n r => (((x * 65536 + y * 256 + z, (wrsR n r).1) : Nat × List Wr), (wrsR n r).2)) reads_byte fun n => ?_
  exact (reads_wrs n).map fun l => (x * 65536 + y * 256 + z, l)
theorem decCm_eq (b : By) : decCm b = ((cmR ⟨b, false⟩).1.1, (cmR ⟨b, false⟩).1.2, (cmR ⟨b, false⟩).2) := rfl
/-! What was written is read. -/
theorem takeR_app (p t : By) : takeR p.length ⟨p ++ t, false⟩ = (p, ⟨t, false⟩) := by unfold takeR; simp
theorem byteR_cons (x : UInt8) (t : By) : byteR ⟨x :: t, false⟩ = (x.toNat, ⟨t, false⟩) := by unfold byteR takeR; simp
theorem partR_enc (p t : By) (h : p.length < 256) : partR ⟨encPart p ++ t, false⟩ = (p, ⟨t, false⟩) := by
  unfold partR encPart
  rw [List.cons_append, byteR_cons, b8_toNat h]
  exact takeR_app p t
theorem wrR_enc (w : Wr) (t : By) (h : WrOk w) : wrR ⟨encWr w ++ t, false⟩ = (w, ⟨t, false⟩) := by
  have h1 := h.name.2
  have h2 := h.key2
  have h3 := h.value
  unfold wrR encWr
  simp only [List.append_assoc]
  rw [partR_enc _ _ (by omega)]
  simp only
  rw [partR_enc _ _ (by omega)]
  simp only
  cases hg : w.gone with
  | true =>
    simp only [if_true, List.cons_append, List.nil_append, byteR_cons]
    rw [if_pos (show ((255 : UInt8).toNat = 255) from rfl)]
    have := h.gone hg
    cases w; simp_all
  | false =>
    simp only [Bool.false_eq_true, if_false, encPart, List.cons_append, byteR_cons]
    rw [b8_toNat (by omega), if_neg (by omega), takeR_app]
    cases w; simp_all
theorem wrsR_enc : ∀ (ws : List Wr) (t : By), (∀ w ∈ ws, WrOk w) → wrsR ws.length ⟨ws.flatMap encWr ++ t, false⟩ = (ws, ⟨t, false⟩)
  | [], t, _ => rfl
  | w :: ws, t, h => by
    simp only [List.length_cons, wrsR, List.flatMap_cons, List.append_assoc]
    rw [wrR_enc w _ (h w (by simp))]
    simp only
    rw [wrsR_enc ws t (fun x hx => h x (by simp [hx]))]
theorem cmR_enc (turn : Nat) (ws : List Wr) (t : By) (h : ∀ w ∈ ws, WrOk w) (hl : ws.length < 256) (ht : turn < 16777216) : cmR ⟨encCm turn ws ++ t, false⟩ = ((turn, ws), ⟨t, false⟩) := by
  unfold cmR encCm
  simp only [List.cons_append, byteR_cons]
  rw [b8_toNat hl, wrsR_enc ws t h, b8_toNat (by omega)]
  have e1 : (b8 (turn / 256)).toNat = turn / 256 % 256 := by simp [b8]
  have e2 : (b8 turn).toNat = turn % 256 := by simp [b8]
  rw [e1, e2]
  congr 2
  omega
/-- What is torn is short. -/
theorem cmR_torn (turn : Nat) (ws : List Wr) (k : Nat) (h : ∀ w ∈ ws, WrOk w) (hl : ws.length < 256) (ht : turn < 16777216) (hk : k < (encCm turn ws).length) : (cmR ⟨(encCm turn ws).take k, false⟩).2.short = true := by
  cases hs : (cmR ⟨(encCm turn ws).take k, false⟩).2.short with
  | true => rfl
  | false =>
    exfalso
    have h1 := reads_cm.more _ ((encCm turn ws).drop k) hs
    rw [List.take_append_drop] at h1
    have h2 := cmR_enc turn ws [] h hl ht
    rw [List.append_nil] at h2
    rw [h2] at h1
    have h3 := congrArg (fun x => x.2.rest.length) h1
    simp at h3
    omega
/-! What is read was written. -/
theorem takeR_inv {n : Nat} {b : By} (h : (takeR n ⟨b, false⟩).2.short = false) : b = (takeR n ⟨b, false⟩).1 ++ (takeR n ⟨b, false⟩).2.rest ∧ (takeR n ⟨b, false⟩).1.length = n := ⟨(takeR_of h).2.2.1, (takeR_of h).2.2.2⟩
theorem byteR_inv {b : By} (h : (byteR ⟨b, false⟩).2.short = false) : b = b8 (byteR ⟨b, false⟩).1 :: (byteR ⟨b, false⟩).2.rest ∧ (byteR ⟨b, false⟩).1 < 256 := by
  have h' : (takeR 1 ⟨b, false⟩).2.short = false := h
  obtain ⟨h1, h2⟩ := takeR_inv h'
  obtain ⟨x, hx⟩ := List.length_eq_one_iff.1 h2
  have e : (byteR ⟨b, false⟩).1 = x.toNat := by unfold byteR; rw [hx]; rfl
  rw [e]
  refine ⟨?_, UInt8.toNat_lt x⟩
  rw [b8_back]
  rw [hx] at h1
  exact h1
theorem partR_inv {b : By} (h : (partR ⟨b, false⟩).2.short = false) : b = encPart (partR ⟨b, false⟩).1 ++ (partR ⟨b, false⟩).2.rest := by
  have h0 : (takeR (byteR ⟨b, false⟩).1 (byteR ⟨b, false⟩).2).2.short = false := h
  obtain ⟨h1, h2, h3, h4⟩ := takeR_of h0
  obtain ⟨h5, h6⟩ := byteR_inv h1
  unfold encPart
  have e : (partR ⟨b, false⟩).1.length = (byteR ⟨b, false⟩).1 := h4
  rw [e, List.cons_append]
  have h7 : (byteR ⟨b, false⟩).2.rest = (partR ⟨b, false⟩).1 ++ (partR ⟨b, false⟩).2.rest := h3
  rw [← h7]
  exact h5
theorem not_short {α : Type} {f : Rr → α × Rr} (hf : Reads f) {r : Rr} (h : (f r).2.short = false) : r = ⟨r.rest, false⟩ := by
  cases hs : r.short with
  | true => rw [hf.short r hs] at h; cases h
  | false => exact Rr.eta r hs
theorem wrR_inv {b : By} (h : (wrR ⟨b, false⟩).2.short = false) : b = encWr (wrR ⟨b, false⟩).1 ++ (wrR ⟨b, false⟩).2.rest ∧ ((wrR ⟨b, false⟩).1.gone = true → (wrR ⟨b, false⟩).1.value = []) := by
  unfold wrR at h ⊢
  simp only at h ⊢
  generalize hA : partR ⟨b, false⟩ = A at *
  generalize hB : partR A.2 = B at *
  generalize hC : byteR B.2 = C at *
  by_cases hc : C.1 = 255
  · rw [if_pos hc] at h ⊢
    simp only at h ⊢
    have hB2 : B.2 = ⟨B.2.rest, false⟩ := not_short reads_byte (by rw [hC]; exact h)
    have hA2 : A.2 = ⟨A.2.rest, false⟩ := not_short reads_part (by rw [hB, hB2])
    have i1 := partR_inv (b := b) (by rw [hA, hA2])
    have i2 := partR_inv (b := A.2.rest) (by rw [← hA2, hB, hB2])
    have i3 := byteR_inv (b := B.2.rest) (by rw [← hB2, hC]; exact h)
    rw [← hA2, hB] at i2
    rw [← hB2, hC] at i3
    rw [hA] at i1
    refine ⟨?_, fun _q => trivial⟩
    unfold encWr
    simp only [if_true, List.append_assoc, List.cons_append, List.nil_append]
    rw [hc] at i3
    rw [show (255 : UInt8) = b8 255 from rfl, ← i3.1, ← i2]
    exact i1
  · rw [if_neg hc] at h ⊢
    simp only at h ⊢
    have hC2 : C.2 = ⟨C.2.rest, false⟩ := not_short (reads_take C.1) h
    have hB2 : B.2 = ⟨B.2.rest, false⟩ := not_short reads_byte (by rw [hC, hC2])
    have hA2 : A.2 = ⟨A.2.rest, false⟩ := not_short reads_part (by rw [hB, hB2])
    have i1 := partR_inv (b := b) (by rw [hA, hA2])
    have i2 := partR_inv (b := A.2.rest) (by rw [← hA2, hB, hB2])
    have i3 := byteR_inv (b := B.2.rest) (by rw [← hB2, hC, hC2])
    obtain ⟨_, _, i4, i5⟩ := takeR_of h
    rw [← hA2, hB] at i2
    rw [← hB2, hC] at i3
    rw [hA] at i1
    refine ⟨?_, fun k => (by cases k)⟩
    unfold encWr
    simp only [Bool.false_eq_true, if_false, List.append_assoc]
    have e : encPart (takeR C.1 C.2).1 ++ (takeR C.1 C.2).2.rest = B.2.rest := by
      unfold encPart
      rw [i5, List.cons_append, ← i4]
      exact i3.1.symm
    rw [e, ← i2]
    exact i1
theorem wrsR_inv : ∀ (n : Nat) (b : By), (wrsR n ⟨b, false⟩).2.short = false → b = (wrsR n ⟨b, false⟩).1.flatMap encWr ++ (wrsR n ⟨b, false⟩).2.rest ∧ (wrsR n ⟨b, false⟩).1.length = n
  | 0, b, _ => ⟨rfl, rfl⟩
  | n + 1, b, h => by
    unfold wrsR at h ⊢
    simp only at h ⊢
    have h2 : (wrR ⟨b, false⟩).2 = ⟨(wrR ⟨b, false⟩).2.rest, false⟩ := not_short (reads_wrs n) h
    obtain ⟨i1, _⟩ := wrR_inv (b := b) (by rw [h2])
    have ih := wrsR_inv n (wrR ⟨b, false⟩).2.rest (by rw [← h2]; exact h)
    rw [← h2] at ih
    refine ⟨?_, by rw [List.length_cons, ih.2]⟩
    rw [List.flatMap_cons, List.append_assoc, ← ih.1]
    exact i1
theorem cmR_inv {b : By} (h : (cmR ⟨b, false⟩).2.short = false) (hr : (cmR ⟨b, false⟩).2.rest = []) : b = encCm (cmR ⟨b, false⟩).1.1 (cmR ⟨b, false⟩).1.2 := by
  unfold cmR at h hr ⊢
  simp only at h hr ⊢
  generalize hX : byteR ⟨b, false⟩ = X at *
  generalize hY : byteR X.2 = Y at *
  generalize hZ : byteR Y.2 = Z at *
  generalize hN : byteR Z.2 = N at *
  have n2 : N.2 = ⟨N.2.rest, false⟩ := not_short (reads_wrs N.1) h
  have z2 : Z.2 = ⟨Z.2.rest, false⟩ := not_short reads_byte (by rw [hN, n2])
  have y2 : Y.2 = ⟨Y.2.rest, false⟩ := not_short reads_byte (by rw [hZ, z2])
  have x2 : X.2 = ⟨X.2.rest, false⟩ := not_short reads_byte (by rw [hY, y2])
  obtain ⟨i1, j1⟩ := byteR_inv (b := b) (by rw [hX, x2])
  obtain ⟨i2, j2⟩ := byteR_inv (b := X.2.rest) (by rw [← x2, hY, y2])
  obtain ⟨i3, j3⟩ := byteR_inv (b := Y.2.rest) (by rw [← y2, hZ, z2])
  obtain ⟨i4, j4⟩ := byteR_inv (b := Z.2.rest) (by rw [← z2, hN, n2])
  obtain ⟨i5, j5⟩ := wrsR_inv N.1 N.2.rest (by rw [← n2]; exact h)
  rw [hX] at i1 j1
  rw [← x2, hY] at i2 j2
  rw [← y2, hZ] at i3 j3
  rw [← z2, hN] at i4 j4
  rw [← n2] at i5 j5
  rw [hr, List.append_nil] at i5
  unfold encCm
  rw [j5, ← i5, ← i4]
  have e1 : (X.1 * 65536 + Y.1 * 256 + Z.1) / 65536 = X.1 := by omega
  have e2 : b8 ((X.1 * 65536 + Y.1 * 256 + Z.1) / 256) = b8 Y.1 := by
    apply UInt8.toNat_inj.1; simp [b8]; omega
  have e3 : b8 (X.1 * 65536 + Y.1 * 256 + Z.1) = b8 Z.1 := by
    apply UInt8.toNat_inj.1; simp [b8]
  rw [e1, e2, e3, ← i3, ← i2]
  exact i1
theorem encWr_len {w : Wr} (h : w.gone = true → w.value = []) : (encWr w).length = 3 + w.name.length + w.key.length + w.value.length := by
  unfold encWr encPart
  cases hg : w.gone with
  | true => simp [h hg]; omega
  | false => simp; omega
end Go.Proofs.YtikklmjengkliaaDoor
namespace Go.Proofs.YtikklmjengkliaaDoor
open Go.RowKit

structure Cm where
  turn : Nat
  writes : List Wr
def foldC (f : Forest) : List Cm → Option Forest
  | [] => some f
  | c :: cs => match applyF f c.writes with
    | some g => foldC g cs
    | none => none
def sizeC (cs : List Cm) : Nat := (cs.map fun c => c.writes.length).sum
structure CmOk (c : Cm) : Prop where
  turn : 1 ≤ c.turn ∧ c.turn ≤ 1048576
  some : 1 ≤ c.writes.length ∧ c.writes.length ≤ 10
  ok : ∀ w ∈ c.writes, WrOk w
/-- Commits turn by turn, each of which fits; m writes at most in all. -/
structure HistOk (m : Nat) (cs : List Cm) : Prop where
  turn : ∀ (i : Nat) (h : i < cs.length), cs[i].turn = i + 1
  ok : ∀ c ∈ cs, CmOk c
  size : sizeC cs ≤ m
  fits : ∃ f, foldC [] cs = some f
theorem foldC_append (f : Forest) (a b : List Cm) : foldC f (a ++ b) = match foldC f a with | some g => foldC g b | none => none := by
  induction a generalizing f with
  | nil => rfl
  | cons c a ih =>
    simp only [List.cons_append, foldC]
    cases applyF f c.writes with
    | none => rfl
    | some g => exact ih g
theorem sizeC_append (a b : List Cm) : sizeC (a ++ b) = sizeC a + sizeC b := by simp [sizeC]
theorem foldC_ok : ∀ {cs : List Cm} {m : Nat} {f g : Forest}, ForestOk m f → (∀ c ∈ cs, CmOk c) → foldC f cs = some g → ForestOk (m + sizeC cs) g
  | [], m, f, g, hf, _, h => by cases h; exact hf
  | c :: cs, m, f, g, hf, hc, h => by
    unfold foldC at h
    split at h
    · rename_i f1 e
      have := foldC_ok (applyF_ok hf (hc c (by simp)).ok e) (fun x hx => hc x (by simp [hx])) h
      refine this.mono ?_
      simp [sizeC]; omega
    · cases h
/-- The forest behind so many commits. -/
def stateC (cs : List Cm) (k : Nat) : Forest := (foldC [] (cs.take k)).getD []
theorem state_some {m : Nat} {cs : List Cm} (h : HistOk m cs) (k : Nat) : foldC [] (cs.take k) = some (stateC cs k) := by
  obtain ⟨f, hf⟩ := h.fits
  rw [← List.take_append_drop k cs, foldC_append] at hf
  unfold stateC
  cases e : foldC [] (cs.take k) with
  | none => rw [e] at hf; cases hf
  | some g => rfl
theorem state_ok {m : Nat} {cs : List Cm} (h : HistOk m cs) (k : Nat) : ForestOk m (stateC cs k) := by
  have := foldC_ok (ForestOk.nil 0) (fun c hc => h.ok c (List.mem_of_mem_take hc)) (state_some h k)
  refine this.mono ?_
  have h2 := h.size
  rw [← List.take_append_drop k cs, sizeC_append] at h2
  omega
theorem state_next {m : Nat} {cs : List Cm} (h : HistOk m cs) {k : Nat} (hk : k < cs.length) : applyF (stateC cs k) cs[k].writes = some (stateC cs (k + 1)) := by
  have h1 := state_some h (k + 1)
  rw [List.take_succ_eq_append_getElem hk, foldC_append, state_some h k] at h1
  simp only [foldC] at h1
  cases e : applyF (stateC cs k) cs[k].writes with
  | none => rw [e] at h1; cases h1
  | some g => rw [e] at h1; simpa using h1
theorem state_zero (cs : List Cm) : stateC cs 0 = [] := rfl
theorem HistOk.take {m : Nat} {cs : List Cm} (h : HistOk m cs) (k : Nat) : HistOk m (cs.take k) := by
  refine ⟨fun i hi => by rw [List.getElem_take]; exact h.turn i _, fun c hc => h.ok c (List.mem_of_mem_take hc), ?_, ⟨_, state_some h k⟩⟩
  have h2 := h.size
  rw [← List.take_append_drop k cs, sizeC_append] at h2
  omega
theorem state_take {cs : List Cm} {k n : Nat} (h : n ≤ k) : stateC (cs.take k) n = stateC cs n := by
  unfold stateC; rw [List.take_take, Nat.min_eq_left h]
theorem HistOk.nil (m : Nat) : HistOk m [] := ⟨by simp, by simp, by simp [sizeC], ⟨[], rfl⟩⟩
theorem HistOk.snoc {m n : Nat} {cs : List Cm} (h : HistOk m cs) {ws : List Wr} (hw : ∀ w ∈ ws, WrOk w) (h1 : 1 ≤ ws.length) (h2 : ws.length ≤ 10) (hm : m + ws.length ≤ n) (hl : cs.length < 1048576) {g : Forest} (hg : applyF (stateC cs cs.length) ws = some g) :
    HistOk n (cs ++ [⟨cs.length + 1, ws⟩]) ∧ stateC (cs ++ [⟨cs.length + 1, ws⟩]) (cs.length + 1) = g := by
  have hs := state_some h cs.length
  rw [List.take_length] at hs
  have hf : foldC [] (cs ++ [⟨cs.length + 1, ws⟩]) = some g := by rw [foldC_append, hs]; simp [foldC, hg]
  refine ⟨⟨fun i hi => ?_, fun c hc => ?_, ?_, ⟨g, hf⟩⟩, ?_⟩
  · rw [List.getElem_append]
    split
    · rename_i h'; exact h.turn i h'
    · have : i = cs.length := by simp at hi; omega
      subst this; simp
  · rcases List.mem_append.1 hc with hc | hc
    · exact h.ok c hc
    · rw [List.mem_singleton.1 hc]; exact ⟨⟨by simp, by simp; omega⟩, ⟨h1, h2⟩, hw⟩
  · rw [sizeC_append]; have := h.size; simp [sizeC] at *; omega
  · unfold stateC
    rw [List.take_of_length_le (by simp), hf]; rfl
/-- Clash: has a later commit written what was read? -/
def clashX (start : Int) (rs : List Rd) (cs : List Cm) : Bool := cs.any fun c => decide (start < c.turn) && c.writes.any fun w => rs.any fun r => touchesX r w
theorem state_touch {m : Nat} {cs : List Cm} (h : HistOk m cs) {start : Nat} {rs : List Rd} (hc : clashX start rs cs = false) {r : Rd} (hr : r ∈ rs) (k : By) (hk : touchesX r ⟨r.name, k, false, []⟩ = true) :
    ∀ n, start ≤ n → n ≤ cs.length → getF (stateC cs n) r.name k = getF (stateC cs start) r.name k := by
  intro n h1 h2
  induction n with
  | zero => rw [show start = 0 from by omega]
  | succ n ih =>
    by_cases e : start = n + 1
    · rw [e]
    · have hn : n < cs.length := h2
      rw [getF_applyF (state_ok h n) (h.ok _ (List.getElem_mem hn)).ok (state_next h hn), ← ih (by omega) (by omega)]
      cases hl : lastW cs[n].writes r.name k with
      | none => rfl
      | some w =>
        exfalso
        unfold lastW at hl
        have hw1 := List.mem_of_find?_eq_some hl
        have hw2 := List.find?_some hl
        simp only [Bool.and_eq_true, beq_iff_eq] at hw2
        rw [List.mem_reverse] at hw1
        have : clashX start rs cs = true := by
          unfold clashX
          rw [List.any_eq_true]
          refine ⟨cs[n], List.getElem_mem hn, ?_⟩
          rw [Bool.and_eq_true, List.any_eq_true]
          refine ⟨by rw [h.turn n hn]; simp; omega, w, hw1, ?_⟩
          rw [List.any_eq_true]
          refine ⟨r, hr, ?_⟩
          unfold touchesX at hk ⊢
          rw [hw2.1, hw2.2]
          exact hk
        rw [hc] at this; cases this
/-- Who meets no clash would read the same now: a key. -/
theorem clash_get {m : Nat} {cs : List Cm} (h : HistOk m cs) {start : Nat} {rs : List Rd} (hc : clashX start rs cs = false) {r : Rd} (hr : r ∈ rs) (hw : r.wide = false) {n : Nat} (h1 : start ≤ n) (h2 : n ≤ cs.length) :
    getF (stateC cs n) r.name r.key = getF (stateC cs start) r.name r.key :=
  state_touch h hc hr r.key (by simp [touchesX, hw]) n h1 h2
/-- .. and a range. -/
theorem clash_range {m : Nat} {cs : List Cm} (h : HistOk m cs) {start : Nat} {rs : List Rd} (hc : clashX start rs cs = false) {r : Rd} (hr : r ∈ rs) (hw : r.wide = true) {n : Nat} (h1 : start ≤ n) (h2 : n ≤ cs.length) :
    rangeT (treeF (stateC cs n) r.name) r.key r.last = rangeT (treeF (stateC cs start) r.name) r.key r.last := by
  have t1 := treeF_ok (state_ok h n) r.name
  have t2 := treeF_ok (state_ok h start) r.name
  refine tree_ext (rise_rangeT t1.rise _ _) (rise_rangeT t2.rise _ _) fun k => ?_
  rw [getT_rangeT, getT_rangeT]
  split
  · rename_i hk
    exact state_touch h hc hr k (by simpa [touchesX, hw] using hk) n h1 h2
  · rfl
theorem clash_more {start : Int} {rs qs : List Rd} {cs : List Cm} (hs : ∀ r ∈ rs, r ∈ qs) (h : clashX start rs cs = true) : clashX start qs cs = true := by
  unfold clashX at *
  simp only [List.any_eq_true, Bool.and_eq_true] at *
  obtain ⟨c, h1, h2, w, h3, r, h4, h5⟩ := h
  exact ⟨c, h1, h2, w, h3, r, hs r h4, h5⟩
theorem clash_late {a b : Int} (hab : a ≤ b) {rs : List Rd} {cs : List Cm} (h : clashX b rs cs = true) : clashX a rs cs = true := by
  unfold clashX at *
  simp only [List.any_eq_true, Bool.and_eq_true, decide_eq_true_eq] at *
  obtain ⟨c, h1, h2, w, h3, r, h4, h5⟩ := h
  exact ⟨c, h1, by omega, w, h3, r, h4, h5⟩
end Go.Proofs.YtikklmjengkliaaDoor
namespace Go.Proofs.YtikklmjengkliaaDoor
open Go.RowKit

theorem Gr.grown {w w1 w2 : World} {F F1 : Fz} {row : Option Nat} (h : Gr w F w1 F1) (hg : w1.grownBy w2 row) (hr : ∀ g, row = some g → w.heap.size ≤ g ∧ F1 g = none) : Gr w F w2 F1 :=
  ⟨h.below.grown hg h.below.size (fun k hk => (hr k hk).1), h.old, h.sat.grown hg (fun k hk => (hr k hk).2)⟩
theorem Gr.none {w w' : World} {F F' : Fz} (h : Gr w F w' F') {g : Nat} (hg : g < w.heap.size) (hn : F g = none) : F' g = none := by rw [h.old g hg]; exact hn
theorem Gr.of_alloc {w0 w : World} {F0 F : Fz} (h : Gr w0 F0 w F) (o : Obj) : Gr w0 F0 (w.alloc o) F := h.new o
/-- A row that the call owns: its elements are told by R. -/
structure Own {α : Type} (k : Nat) (R : Fz → List Value → α → Prop) (E base : Nat) (w : World) (F : Fz) (v : Value) (l : List α) : Prop where
  ex : ∃ el : List (List Value), w.ownsRow base E k v l.length el.flatten ∧ AllR (R F) el l ∧ ∀ x ∈ el, x.length = k
  out : ∀ g, v.ownBlock = some g → F g = none
section
variable {α : Type} {k E base : Nat} {R : Fz → List Value → α → Prop} {w w' : World} {F F' : Fz} {v : Value} {l : List α}
theorem Own.nil (w : World) (F : Fz) : Own k R E base w F (.slice none 0 0) [] := ⟨⟨[], World.ownsRow_nil w base E k, trivial, by simp⟩, fun g h => by cases h⟩
theorem Own.lt (h : Own k R E base w F v l) : ∀ g, v.ownBlock = some g → base ≤ g ∧ g < w.heap.size := by
  obtain ⟨el, h1, _⟩ := h.ex
  exact h1.lt
theorem Own.shape (h : Own k R E base w F v l) : ∃ a c, v = .slice a l.length c ∧ l.length ≤ c ∧ c ≤ maxLen := by
  obtain ⟨el, ⟨_, h2⟩, _⟩ := h.ex
  rcases h2 with ⟨rfl, h0⟩ | ⟨g, cap, cur, rfl, _, _, h3, h4, _⟩
  · exact ⟨none, 0, by rw [h0], by omega, Nat.zero_le _⟩
  · exact ⟨_, cap, rfl, h3, h4⟩
theorem Own.mono (hR : ∀ F F' x p, Le F F' → R F x p → R F' x p) (h : Own k R E base w F v l) (hl : Le F F') (ho : ∀ g, v.ownBlock = some g → F' g = none) : Own k R E base w F' v l := by
  obtain ⟨el, h1, h2, h3⟩ := h.ex
  exact ⟨⟨el, h1, h2.imp fun x p => hR _ _ x p hl, h3⟩, ho⟩
/-- A call leaves the row alone. -/
theorem Own.gr (hR : ∀ F F' x p, Le F F' → R F x p → R F' x p) (h : Own k R E base w F v l) (hs : Sat w F) (g : Gr w F w' F') : Own k R E base w' F' v l := by
  obtain ⟨el, h1, h2, h3⟩ := h.ex
  have hlt := h1.lt
  refine ⟨⟨el, ?_, h2.imp fun x p => hR _ _ x p (g.le hs), h3⟩, fun b hb => g.none (hlt b hb).2 (h.out b hb)⟩
  obtain ⟨e1, e2⟩ := h1
  refine ⟨e1, e2.imp id ?_⟩
  rintro ⟨b, cap, cur, q1, q2, q3, q4⟩
  subst q1
  exact ⟨b, cap, cur, rfl, q2, (g.below.block b (hlt b rfl).2).trans q3, q4⟩
theorem Own.alloc (h : Own k R E base w F v l) (o : Obj) : Own k R E base (w.alloc o) F v l := by
  obtain ⟨el, h1, h2, h3⟩ := h.ex
  exact ⟨⟨el, h1.alloc o, h2, h3⟩, h.out⟩
theorem Own.drew (h : Own k R E base w F v l) : Own k R E base w.drew F v l := ⟨h.ex, h.out⟩
theorem Own.set (h : Own k R E base w F v l) (a : Addr) (u : Value) (ha : v.ownBlock ≠ some a.block) : Own k R E base (w.setCell a u) F v l := by
  obtain ⟨el, ⟨e1, e2⟩, h2, h3⟩ := h.ex
  refine ⟨⟨el, ⟨e1, e2.imp id ?_⟩, h2, h3⟩, h.out⟩
  rintro ⟨b, cap, cur, q1, q2, q3, q4⟩
  subst q1
  exact ⟨b, cap, cur, rfl, q2, heap_set_past q3 (fun e => ha (by rw [e]; rfl)) u, q4⟩
theorem Own.rebase {base' : Nat} (h : Own k R E base w F v l) (hb : ∀ g, v.ownBlock = some g → base' ≤ g) : Own k R E base' w F v l := by
  obtain ⟨el, ⟨e1, e2⟩, h2, h3⟩ := h.ex
  refine ⟨⟨el, ⟨e1, e2.imp id ?_⟩, h2, h3⟩, h.out⟩
  rintro ⟨b, cap, cur, q1, q2, q3, q4⟩
  subst q1
  exact ⟨b, cap, cur, rfl, hb b rfl, q3, q4⟩
theorem rw_of_owns {xs : List Value} {n : Nat} (h : w.ownsRow base E k v n xs) (hs : Sat w F) : ∃ g, Rw (addF F w g) v n xs ∧ (base ≤ g ∨ addF F w g = F) := by
  obtain ⟨g, q1, q2⟩ := Rw.of_owns h hs
  rcases q2 with rfl | q2
  · obtain ⟨e1, ⟨_, e2⟩ | ⟨_, _, _, e2, _⟩⟩ := h
    · subst e2
      have : xs = [] := List.eq_nil_of_length_eq_zero (by simpa using e1)
      subst this
      refine ⟨w.heap.size, Rw.nil _, .inr ?_⟩
      funext b
      unfold addF
      cases hb : F b with
      | none =>
        simp only []
        split
        · rename_i e; subst e; simp
        · rfl
      | some o => rfl
    · cases e2
  · exact ⟨g, q1, .inl q2⟩
/-- The row is done with: it no more changes. -/
theorem Own.freeze (hR : ∀ F F' x p, Le F F' → R F x p → R F' x p) {w0 : World} {F0 : Fz} (h : Own k R E base w F v l) (g : Gr w0 F0 w F) (hb : w0.heap.size ≤ base) : ∃ F', Gr w0 F0 w F' ∧ Le F F' ∧ Sl k R F' v l := by
  obtain ⟨el, h1, h2, h3⟩ := h.ex
  obtain ⟨b, q1, q2⟩ := rw_of_owns h1 g.sat
  have hle : Le F (addF F w b) := fun b' o hb' => addF_le _ _ _ _ _ hb'
  refine ⟨_, ?_, hle, el, q1, h2.imp fun x p => hR _ _ x p hle, h3⟩
  rcases q2 with q2 | q2
  · exact g.add (Nat.le_trans hb q2)
  · rw [q2]; exact g
/-- The row as it stands, for one who only reads. -/
theorem Own.peek (hR : ∀ F F' x p, Le F F' → R F x p → R F' x p) (h : Own k R E base w F v l) (hs : Sat w F) : ∃ F', Sat w F' ∧ Le F F' ∧ Sl k R F' v l := by
  obtain ⟨el, h1, h2, h3⟩ := h.ex
  obtain ⟨b, q1, q2⟩ := rw_of_owns h1 hs
  have hle : Le F (addF F w b) := fun b' o hb' => addF_le _ _ _ _ _ hb'
  exact ⟨_, hs.addF b, hle, el, q1, h2.imp fun x p => hR _ _ x p hle, h3⟩
/-- 'append(out, x)': the element's cells lie in a block of their own. -/
theorem wpList_push {P : Program} {ops : Array Oper} {rest : List Oper} {o : Oper} {a : Act} {Q : Exit → Act → World → Prop} (hgd : o.guard = none) (s x : Operand) (t : TypeId)
    (ho : o.op = .call { callee := .builtin .append, args := #[s, x], argTypes := #[t, t] })
    (i : TypeInfo) (z : Value) (bytes : Nat) (ht : P.underlying t = some (.slice E)) (hi : P.info? E = some i) (hz : i.zero = some z)
    (hsize : i.size = k) (hby : i.bytes = bytes) (hzs : z.cells.size = k) (hsz : 0 < k)
    (hv : a.eval s = v) (hown : Own k R E base w F v l) (hs : Sat w F) {n c : Nat} {cs : List Value} {T : TypeId} {fr : Nat × Nat} {p : α}
    (hx : a.eval x = .slice (some ⟨n, 0, none⟩) 1 c) (hb : w.heap[n]? = some (.cells cs.toArray T fr)) (hl : cs.length = k) (h1 : ∀ u ∈ cs, u.oneCell' = true) (hp : R F cs p)
    (h63 : l.length + 1 ≤ maxLen) (hbytes : (l.length + 1) * bytes ≤ 140737488355328) (hbase : base ≤ w.heap.size)
    (h : ∀ v' w', Own k R E base w' F v' (l ++ [p]) → w.grownBy w' v.ownBlock → Sat w' F → v' ≠ .slice none 0 0 → wpList P ops Q rest (a.put o.dst v') w') : wpList P ops Q (o :: rest) a w := by
  obtain ⟨el, e1, e2, e3⟩ := hown.ex
  have hlt := hown.lt
  refine wpList_append_lies w hgd s x t ho base E i z k bytes ht hi hz hsize hby hzs hsz v l.length el.flatten hv e1 ⟨n, 0, none⟩ 1 c cs hx (by rw [hl]; omega) (fun j u hu => World.news_of_block hb j u (by simpa using hu)) h1 (by omega) h63 hbytes hbase w.heap.size rfl ?_
  intro g cap w' q1 q2 q3 q4
  refine h _ w' ⟨⟨el ++ [cs], ?_, e2.append ⟨hp, trivial⟩, fun y hy => ?_⟩, fun b hb' => ?_⟩ q2 (hs.grown q2 (fun b hb' => hown.out b hb')) (by intro h; cases h)
  · rw [List.flatten_append, List.length_append]
    simpa using q1
  · rcases List.mem_append.1 hy with hy | hy
    · exact e3 y hy
    · rw [List.mem_singleton.1 hy]; exact hl
  · cases hb'
    rcases q3 with q3 | q3
    · exact hown.out _ q3
    · subst q3
      exact hs.out (Nat.le_refl _)
/-- What the row's growing leaves alone. -/
theorem Own.far (_hown : Own k R E base w F v l) (hg : w.grownBy w' v.ownBlock) {b : Nat} (hb : b < w.heap.size) (hne : v.ownBlock ≠ some b) : w'.heap[b]? = w.heap[b]? := hg.block b hb (fun e => hne e.symm)
end
/-- A pair's cells. -/
def PrC (F : Fz) (cs : List Value) (p : List UInt8 × List UInt8) : Prop := ∃ a b, cs = [a, b] ∧ Bs F a p.1 ∧ Bs F b p.2
theorem PrC.mono (F F' : Fz) (x : List Value) (p : List UInt8 × List UInt8) (hl : Le F F') (h : PrC F x p) : PrC F' x p := by
  obtain ⟨a, b, h1, h2, h3⟩ := h
  exact ⟨a, b, h1, h2.mono hl, h3.mono hl⟩
abbrev Prs (F : Fz) (v : Value) (l : List (List UInt8 × List UInt8)) : Prop := Sl 2 PrC F v l
theorem Bs.oneCell {F : Fz} {v : Value} {l : List UInt8} (h : Bs F v l) : v.oneCell' = true := by
  obtain ⟨a, c, rfl, _⟩ := h.shape; rfl
theorem PrC.oneCell {F : Fz} {cs : List Value} {p : List UInt8 × List UInt8} (h : PrC F cs p) : ∀ u ∈ cs, u.oneCell' = true := by
  obtain ⟨a, b, rfl, h2, h3⟩ := h
  intro u hu
  rcases List.mem_cons.1 hu with rfl | hu
  · exact h2.oneCell
  · rw [List.mem_singleton.1 hu]; exact h3.oneCell
/-- Element i of a slice of pairs: its two cells. -/
theorem Prs.at {F : Fz} {a : Option Addr} {n c : Nat} {l : List (List UInt8 × List UInt8)} (h : Prs F (.slice a n c) l) (hn : 0 < n) :
    ∃ b o, a = some ⟨b, o, none⟩ ∧ ∀ (i : Nat) (hi : i < l.length), ∃ x y, cellF F b (o + i * 2) = some x ∧ cellF F b (o + i * 2 + 1) = some y ∧ Bs F x l[i].1 ∧ Bs F y l[i].2 := by
  obtain ⟨b, o, e, h1⟩ := Sl.at h (by omega) hn
  refine ⟨b, o, e, fun i hi => ?_⟩
  obtain ⟨cs, q1, ⟨x, y, rfl, q2, q3⟩, q4⟩ := h1 i hi
  refine ⟨x, y, ?_, ?_, q2, q3⟩
  · have := q4 0 (by simp); simpa using this
  · have := q4 1 (by simp); simpa [Nat.add_assoc] using this
theorem Sl.len {α : Type} {k : Nat} {R : Fz → List Value → α → Prop} {F : Fz} {a : Option Addr} {n c : Nat} {l : List α} (h : Sl k R F (.slice a n c) l) : n = l.length := by
  obtain ⟨a', c', h1, _⟩ := h.shape
  cases h1; rfl
end Go.Proofs.YtikklmjengkliaaDoor
namespace Go.Proofs.YtikklmjengkliaaDoor
open Go.RowKit
set_option linter.unusedVariables false

/-- A block of the call's own, known whole. -/
structure Blk where
  n : Nat
  c : List Value
  t : TypeId
/-- What is told of a row (or whatever else) that lies in a block of the call's own. -/
structure RowP where
  ob : Option Nat
  holds : World → Fz → Prop
  stable : ∀ w w' F F', holds w F → (∀ g, ob = some g → w'.heap[g]? = w.heap[g]?) → Le F F' → (∀ g, ob = some g → F' g = none) → holds w' F'
structure St (w0 : World) (F0 : Fz) (w : World) (F : Fz) (L : List Blk) (M : List RowP) : Prop where
  gr : Gr w0 F0 w F
  blk : ∀ x ∈ L, w.heap[x.n]? = some (.cells x.c.toArray x.t (0, 0)) ∧ F x.n = none ∧ w0.heap.size ≤ x.n
  row : ∀ r ∈ M, r.holds w F ∧ ∀ g, r.ob = some g → g < w.heap.size ∧ F g = none ∧ w0.heap.size ≤ g
  bb : L.Pairwise fun x y => x.n ≠ y.n
  rb : ∀ r ∈ M, ∀ x ∈ L, r.ob ≠ some x.n
  rr : M.Pairwise fun r s => ∀ g, r.ob = some g → s.ob ≠ some g
section
variable {w0 w w' : World} {F0 F F' : Fz} {L : List Blk} {M : List RowP}
theorem St.sat (S : St w0 F0 w F L M) : Sat w F := S.gr.sat
theorem St.start (hs : Sat w F) : St w F w F [] [] := ⟨Gr.refl hs, by simp, by simp, by simp, by simp, by simp⟩
theorem St.blk_lt (S : St w0 F0 w F L M) {x : Blk} (h : x ∈ L) : x.n < w.heap.size := (Array.getElem?_eq_some_iff.1 (S.blk x h).1).1
theorem St.mem {i : Nat} {x : Blk} (h : L[i]? = some x) : x ∈ L := by obtain ⟨h1, rfl⟩ := List.getElem?_eq_some_iff.1 h; exact List.getElem_mem h1
theorem St.cell (S : St w0 F0 w F L M) {i : Nat} {n : Nat} {c : List Value} {t : TypeId} (h : L[i]? = some ⟨n, c, t⟩) {j : Nat} {v : Value} (hv : c[j]? = some v) : w.cell? ⟨n, j, none⟩ = some v := by
  have := (S.blk _ (St.mem h)).1
  simp only at this
  simp [World.cell?, this, hv]
theorem St.range (S : St w0 F0 w F L M) {i : Nat} {n : Nat} {c : List Value} {t : TypeId} (h : L[i]? = some ⟨n, c, t⟩) (j : Nat) (cs : List Value) (hv : ∀ (k : Nat) v, cs[k]? = some v → c[j + k]? = some v) : w.rangeAt n j cs := fun k v hk => S.cell h (hv k v hk)
theorem St.fz (S : St w0 F0 w F L M) {b o : Nat} {v : Value} (h : cellF F b o = some v) : w.cell? ⟨b, o, none⟩ = some v := S.sat.cell h
/-- A call that makes something leaves what is the caller's own. -/
theorem St.gives (S : St w0 F0 w F L M) (g : Gr w F w' F') : St w0 F0 w' F' L M :=
  ⟨S.gr.trans g, fun x hx => ⟨(g.below.block _ (S.blk_lt hx)).trans (S.blk x hx).1, g.none (S.blk_lt hx) (S.blk x hx).2.1, (S.blk x hx).2.2⟩,
    fun r hr => ⟨r.stable _ _ _ _ (S.row r hr).1 (fun b hb => g.below.block _ ((S.row r hr).2 b hb).1) (g.le S.sat) (fun b hb => g.none ((S.row r hr).2 b hb).1 ((S.row r hr).2 b hb).2.1),
      fun b hb => ⟨Nat.lt_of_lt_of_le ((S.row r hr).2 b hb).1 g.below.size, g.none ((S.row r hr).2 b hb).1 ((S.row r hr).2 b hb).2.1, ((S.row r hr).2 b hb).2.2⟩⟩, S.bb, S.rb, S.rr⟩
theorem St.tells (S : St w0 F0 w F L M) (h : Below w.heap.size w w') : St w0 F0 w' F L M := S.gives (Gr.of_below S.sat h)
theorem St.alloc (S : St w0 F0 w F L M) (cs : Array Value) (T : TypeId) : St w0 F0 (w.alloc (.cells cs T)) F (⟨w.heap.size, cs.toList, T⟩ :: L) M := by
  have S' := S.gives ((Gr.refl S.sat).new (.cells cs T))
  refine ⟨S'.gr, fun x hx => ?_, S'.row, ?_, fun r hr x hx => ?_, S.rr⟩
  · rcases List.mem_cons.1 hx with rfl | hx
    · exact ⟨heap_new_at w _ rfl, S.sat.out (Nat.le_refl _), S.gr.below.size⟩
    · exact S'.blk x hx
  · refine List.pairwise_cons.2 ⟨fun y hy => ?_, S.bb⟩
    have := S.blk_lt hy
    simp only
    omega
  · rcases List.mem_cons.1 hx with rfl | hx
    · intro e
      have := ((S.row r hr).2 _ e).1
      simp at this
    · exact S.rb r hr x hx
def splice (c : List Value) (j : Nat) (vs : List Value) : List Value := c.take j ++ vs ++ c.drop (j + vs.length)
theorem splice_len {c vs : List Value} {j : Nat} (h : j + vs.length ≤ c.length) : (splice c j vs).length = c.length := by unfold splice; simp; omega
theorem heap_setCells {n : Nat} {T : TypeId} {fr : Nat × Nat} : ∀ (vs : List Value) (j : Nat) (w : World) (c : List Value), w.heap[n]? = some (.cells c.toArray T fr) → j + vs.length ≤ c.length → (w.setCells n j vs).heap[n]? = some (.cells (splice c j vs).toArray T fr)
  | [], j, w, c, h, _ => by simp [World.setCells, splice, h]
  | v :: vs, j, w, c, h, hl => by
    simp only [List.length_cons] at hl
    have h1 : (w.setCell ⟨n, j, none⟩ v).heap[n]? = some (.cells (c.set j v).toArray T fr) := by
      rw [heap_set_at h]; simp
    have h2 := heap_setCells vs (j + 1) (w.setCell ⟨n, j, none⟩ v) (c.set j v) h1 (by simp; omega)
    simp only [World.setCells]
    rw [h2]
    have e : splice (c.set j v) (j + 1) vs = splice c j (v :: vs) := ?_
    · rw [e]
    unfold splice
    apply List.ext_getElem?
    intro m
    simp only [List.getElem?_append, List.getElem?_take, List.length_take, List.length_set, List.length_append, List.getElem?_drop, List.length_cons, List.getElem?_set, List.getElem?_cons]
    grind
theorem heap_setCells_past {n : Nat} : ∀ (vs : List Value) (j : Nat) (w : World) {b : Nat}, b ≠ n → (w.setCells n j vs).heap[b]? = w.heap[b]?
  | [], _, _, _, _ => rfl
  | v :: vs, j, w, b, h => by
    simp only [World.setCells]
    rw [heap_setCells_past vs (j + 1) _ h]
    exact Below.heap_setCell w _ v b h
theorem below_setCells {B n : Nat} (hB : B ≤ n) : ∀ (vs : List Value) (j : Nat) (a w : World), Below B a w → Below B a (w.setCells n j vs)
  | [], _, _, _, h => h
  | v :: vs, j, a, w, h => below_setCells hB vs (j + 1) a _ (h.setCell hB v)
theorem size_setCells {n : Nat} : ∀ (vs : List Value) (j : Nat) (w : World), (w.setCells n j vs).heap.size = w.heap.size
  | [], _, _ => rfl
  | v :: vs, j, w => by simp only [World.setCells]; rw [size_setCells vs]; simp
theorem sat_setCells {n : Nat} (hn : F n = none) : ∀ (vs : List Value) (j : Nat) (w : World), Sat w F → Sat (w.setCells n j vs) F
  | [], _, _, h => h
  | v :: vs, j, w, h => sat_setCells hn vs (j + 1) _ (h.setCell hn v)
theorem St.store (S : St w0 F0 w F L M) {i n : Nat} {c : List Value} {t : TypeId} (h : L[i]? = some ⟨n, c, t⟩) (j : Nat) (vs : List Value) (hl : j + vs.length ≤ c.length) : St w0 F0 (w.setCells n j vs) F (L.set i ⟨n, splice c j vs, t⟩) M := by
  obtain ⟨hi, he⟩ := List.getElem?_eq_some_iff.1 h
  obtain ⟨b1, b2, b3⟩ := S.blk _ (St.mem h)
  simp only at b1 b2 b3
  have hne : ∀ k (hk : k < L.length), k ≠ i → L[k].n ≠ n := by
    intro k hk hki
    have hp := List.pairwise_iff_getElem.1 S.bb
    rcases Nat.lt_or_gt_of_ne hki with h1 | h1
    · have := hp k i hk hi h1; rw [he] at this; exact this
    · have := hp i k hi hk h1; rw [he] at this; exact this.symm
  refine ⟨⟨below_setCells b3 vs j _ _ S.gr.below, S.gr.old, sat_setCells b2 vs j w S.sat⟩, fun x hx => ?_, fun r hr => ?_, ?_, fun r hr x hx => ?_, S.rr⟩
  · obtain ⟨k, hk, rfl⟩ := List.mem_iff_getElem.1 hx
    rw [List.getElem_set]
    split
    · exact ⟨heap_setCells vs j w c b1 hl, b2, b3⟩
    · rename_i hki
      have hk' : k < L.length := by simpa using hk
      have := S.blk _ (List.getElem_mem hk')
      exact ⟨(heap_setCells_past vs j w (hne k hk' (fun e => hki e.symm))).trans this.1, this.2⟩
  · have hr1 := S.row r hr
    have hn : ∀ g, r.ob = some g → g ≠ n := fun g hg e => S.rb r hr _ (St.mem h) (by rw [hg, e])
    exact ⟨r.stable _ _ _ _ hr1.1 (fun g hg => heap_setCells_past vs j w (hn g hg)) (Le.refl _) (fun g hg => (hr1.2 g hg).2.1), fun g hg => ⟨by rw [size_setCells]; exact (hr1.2 g hg).1, (hr1.2 g hg).2⟩⟩
  · refine List.pairwise_iff_getElem.2 fun k m hk hm hkm => ?_
    have hk' : k < L.length := by simpa using hk
    have hm' : m < L.length := by simpa using hm
    have hp := List.pairwise_iff_getElem.1 S.bb k m hk' hm' hkm
    rw [List.getElem_set, List.getElem_set]
    split
    · split
      · omega
      · exact (hne m hm' (by omega)).symm
    · split
      · exact hne k hk' (by omega)
      · exact hp
  · obtain ⟨k, hk, rfl⟩ := List.mem_iff_getElem.1 hx
    have hk' : k < L.length := by simpa using hk
    rw [List.getElem_set]
    split
    · exact S.rb r hr ⟨n, c, t⟩ (St.mem h)
    · exact S.rb r hr _ (List.getElem_mem hk')
theorem St.there (S : St w0 F0 w F L M) {i n : Nat} {c : List Value} {t : TypeId} (h : L[i]? = some ⟨n, c, t⟩) (j k : Nat) (hl : j + k ≤ c.length) : w.there n j k := fun m hm => by
  have := (S.blk _ (St.mem h)).1
  simp only at this
  have hm' : j + m < c.length := by omega
  exact ⟨by simp [World.cell?, this, hm'], by simp [World.frozen?, this]⟩
/-- Fewer blocks are followed. -/
theorem St.drop (S : St w0 F0 w F L M) {L' : List Blk} (h : L'.Sublist L) : St w0 F0 w F L' M := ⟨S.gr, fun x hx => S.blk x (h.subset hx), S.row, S.bb.sublist h, fun r hr x hx => S.rb r hr x (h.subset hx), S.rr⟩
theorem St.dropRow (S : St w0 F0 w F L M) {M' : List RowP} (h : M'.Sublist M) : St w0 F0 w F L M' := ⟨S.gr, S.blk, fun x hx => S.row x (h.subset hx), S.bb, fun r hr => S.rb r (h.subset hr), S.rr.sublist h⟩
/-- A block of the call's own becomes a part of what no more changes. -/
theorem St.freezeBlk (S : St w0 F0 w F L M) {i n : Nat} {c : List Value} {t : TypeId} (h : L[i]? = some ⟨n, c, t⟩) : St w0 F0 w (addF F w n) (L.eraseIdx i) M ∧ Le F (addF F w n) ∧ ∀ j v, c[j]? = some v → cellF (addF F w n) n j = some v := by
  obtain ⟨hi, he⟩ := List.getElem?_eq_some_iff.1 h
  obtain ⟨b1, b2, b3⟩ := S.blk _ (St.mem h)
  simp only at b1 b2 b3
  have hsub := List.eraseIdx_sublist L i
  have hne : ∀ x ∈ L.eraseIdx i, x.n ≠ n := by
    intro x hx
    obtain ⟨k, hk, rfl⟩ := List.mem_iff_getElem.1 hx
    have hp := List.pairwise_iff_getElem.1 S.bb
    rw [List.length_eraseIdx] at hk
    rw [List.getElem_eraseIdx]
    split
    · rename_i hlt
      have := hp k i (by omega) hi hlt
      rw [he] at this; exact this
    · rename_i hge
      rw [if_pos hi] at hk
      have := hp i (k + 1) hi (by omega) (by omega)
      rw [he] at this; exact this.symm
  have hle : Le F (addF F w n) := fun b o hb => addF_le _ _ _ _ _ hb
  refine ⟨⟨S.gr.add b3, fun x hx => ?_, fun r hr => ?_, S.bb.sublist hsub, fun r hr x hx => S.rb r hr x (hsub.subset hx), S.rr⟩, hle, fun j v hv => ?_⟩
  · have := S.blk x (hsub.subset hx)
    exact ⟨this.1, by rw [addF_old (hne x hx)]; exact this.2.1, this.2.2⟩
  · have hr1 := S.row r hr
    have hn : ∀ g, r.ob = some g → addF F w n g = none := fun g hg => by
      rw [addF_old (fun e => S.rb r hr _ (St.mem h) (by rw [hg, e]))]
      exact (hr1.2 g hg).2.1
    exact ⟨r.stable _ _ _ _ hr1.1 (fun _ _ => rfl) hle hn, fun g hg => ⟨(hr1.2 g hg).1, hn g hg, (hr1.2 g hg).2.2⟩⟩
  · unfold cellF addF
    simp [b2, b1, hv]
end
/-- An owned row, as such a thing. -/
def ownP {α : Type} (k : Nat) (R : Fz → List Value → α → Prop) (hR : ∀ F F' x p, Le F F' → R F x p → R F' x p) (E base : Nat) (v : Value) (l : List α) : RowP where
  ob := v.ownBlock
  holds w F := Own k R E base w F v l
  stable := by
    intro w w' F F' h hh hl hn
    obtain ⟨el, ⟨e1, e2⟩, h2, h3⟩ := h.ex
    refine ⟨⟨el, ⟨e1, e2.imp id ?_⟩, h2.imp fun x p => hR _ _ x p hl, h3⟩, hn⟩
    rintro ⟨b, cap, cur, q1, q2, q3, q4⟩
    subst q1
    exact ⟨b, cap, cur, rfl, q2, (hh b rfl).trans q3, q4⟩
section
variable {w0 w w' : World} {F0 F F' : Fz} {L : List Blk} {M : List RowP} {α : Type} {k E base : Nat} {R : Fz → List Value → α → Prop} {hR : ∀ F F' x p, Le F F' → R F x p → R F' x p} {v : Value} {l : List α}
theorem St.own (S : St w0 F0 w F L M) {i : Nat} (h : M[i]? = some (ownP k R hR E base v l)) : Own k R E base w F v l := by
  obtain ⟨h1, h2⟩ := List.getElem?_eq_some_iff.1 h
  have := (S.row _ (List.getElem_mem h1)).1
  rw [h2] at this
  exact this
theorem St.addNil (S : St w0 F0 w F L M) (k : Nat) (R : Fz → List Value → α → Prop) (hR : ∀ F F' x p, Le F F' → R F x p → R F' x p) (E base : Nat) : St w0 F0 w F L (ownP k R hR E base (.slice none 0 0) [] :: M) :=
  ⟨S.gr, S.blk, fun r hr => by
    rcases List.mem_cons.1 hr with rfl | hr
    · exact ⟨Own.nil w F, fun g hg => by cases hg⟩
    · exact S.row r hr, S.bb, fun r hr x hx => by
    rcases List.mem_cons.1 hr with rfl | hr
    · intro h
      cases h
    · exact S.rb r hr x hx, List.pairwise_cons.2 ⟨fun s _ g hg => (by cases hg), S.rr⟩⟩
theorem pairwise_set_row {M : List RowP} {i : Nat} {r' : RowP} (h : M.Pairwise fun r s => ∀ g, r.ob = some g → s.ob ≠ some g) (hi : ∀ k (hk : k < M.length), k ≠ i → ∀ g, r'.ob = some g → M[k].ob ≠ some g) : (M.set i r').Pairwise fun r s => ∀ g, r.ob = some g → s.ob ≠ some g := by
  rw [List.pairwise_iff_getElem] at h ⊢
  intro a b ha hb hab
  simp only [List.length_set] at ha hb
  rw [List.getElem_set, List.getElem_set]
  split
  · split
    · omega
    · intro g hg; exact hi b hb (by omega) g hg
  · split
    · intro g hg hg'; exact hi a ha (by omega) g hg' hg
    · exact h a b ha hb hab
/-- The row has grown. -/
theorem St.grown (S : St w0 F0 w F L M) {i : Nat} (h : M[i]? = some (ownP k R hR E base v l)) (hb : w0.heap.size ≤ base) {v' : Value} {l' : List α} (hg : w.grownBy w' v.ownBlock) (ho : Own k R E base w' F v' l') (hf : ∀ g, v'.ownBlock = some g → v.ownBlock = some g ∨ w.heap.size ≤ g) : St w0 F0 w' F L (M.set i (ownP k R hR E base v' l')) := by
  obtain ⟨hi, he⟩ := List.getElem?_eq_some_iff.1 h
  have hm : ownP k R hR E base v l ∈ M := by rw [← he]; exact List.getElem_mem hi
  have hown := S.own h
  have hr0 := S.row _ hm
  have hlt := ho.lt
  have hother : ∀ k' (hk : k' < M.length), k' ≠ i → ∀ g, v'.ownBlock = some g → M[k'].ob ≠ some g := by
    intro k' hk hne g hg' hc
    rcases hf g hg' with h1 | h1
    · have hp := List.pairwise_iff_getElem.1 S.rr
      rcases Nat.lt_or_gt_of_ne hne with h2 | h2
      · have := hp k' i hk hi h2 g hc; rw [he] at this; exact this h1
      · have := hp i k' hi hk h2 g (by rw [he]; exact h1); exact this hc
    · have := ((S.row _ (List.getElem_mem hk)).2 g hc).1
      omega
  refine ⟨S.gr.grown hg (fun g hg' => ⟨(hr0.2 g hg').2.2, (hr0.2 g hg').2.1⟩), fun x hx => ?_, fun r hr => ?_, S.bb, fun r hr x hx => ?_, pairwise_set_row S.rr hother⟩
  · have := S.blk x hx
    have hne : v.ownBlock ≠ some x.n := S.rb _ hm x hx
    exact ⟨(hg.block _ (S.blk_lt hx) (fun e => hne e.symm)).trans this.1, this.2⟩
  · obtain ⟨k', hk, rfl⟩ := List.mem_iff_getElem.1 hr
    have hk' : k' < M.length := by simpa using hk
    rw [List.getElem_set]
    split
    · refine ⟨ho, fun g hg' => ⟨(hlt g hg').2, ho.out g hg', Nat.le_trans hb (hlt g hg').1⟩⟩
    · rename_i hki
      have hr1 := S.row _ (List.getElem_mem hk')
      have hne : ∀ g, M[k'].ob = some g → v.ownBlock ≠ some g := fun g hg' hv => by
        have hp := List.pairwise_iff_getElem.1 S.rr
        rcases Nat.lt_or_gt_of_ne (fun e => hki e.symm : k' ≠ i) with h2 | h2
        · have := hp k' i hk' hi h2 g hg'; rw [he] at this; exact this hv
        · have := hp i k' hi hk' h2 g (by rw [he]; exact hv); exact this hg'
      exact ⟨RowP.stable _ _ _ _ _ hr1.1 (fun g hg' => hg.block _ (hr1.2 g hg').1 (fun e => hne g hg' e.symm)) (Le.refl _) (fun g hg' => (hr1.2 g hg').2.1), fun g hg' => ⟨Nat.lt_of_lt_of_le (hr1.2 g hg').1 hg.size, (hr1.2 g hg').2⟩⟩
  · obtain ⟨k', hk, rfl⟩ := List.mem_iff_getElem.1 hr
    have hk' : k' < M.length := by simpa using hk
    rw [List.getElem_set]
    split
    · intro e
      rcases hf x.n e with h1 | h1
      · exact S.rb _ hm x hx h1
      · have := S.blk_lt hx; omega
    · exact S.rb _ (List.getElem_mem hk') x hx
/-- The row is done with. -/
theorem St.freeze (S : St w0 F0 w F L M) {i : Nat} (h : M[i]? = some (ownP k R hR E base v l)) (hb : w0.heap.size ≤ base) : ∃ F', St w0 F0 w F' L (M.eraseIdx i) ∧ Le F F' ∧ Sl k R F' v l := by
  obtain ⟨hi, he⟩ := List.getElem?_eq_some_iff.1 h
  have hm : ownP k R hR E base v l ∈ M := by rw [← he]; exact List.getElem_mem hi
  have hown := S.own h
  obtain ⟨el, h1, h2, h3⟩ := hown.ex
  have hsub := List.eraseIdx_sublist M i
  have hother : ∀ r ∈ M.eraseIdx i, ∀ g, v.ownBlock = some g → r.ob ≠ some g := by
    intro r hr g hg hc
    obtain ⟨k', hk, rfl⟩ := List.mem_iff_getElem.1 hr
    have hp := List.pairwise_iff_getElem.1 S.rr
    rw [List.length_eraseIdx, if_pos hi] at hk
    rw [List.getElem_eraseIdx] at hc
    split at hc
    · rename_i hlt
      have := hp k' i (by omega) hi hlt g hc; rw [he] at this; exact this hg
    · have := hp i (k' + 1) hi (by omega) (by omega) g (by rw [he]; exact hg); exact this hc
  rcases h1.2 with ⟨hv, hn⟩ | ⟨g, cap, cur, hv, q2, q3, q4⟩
  · have hl : l = [] := List.eq_nil_of_length_eq_zero hn
    subst hl
    subst hv
    exact ⟨F, ⟨S.gr, S.blk, fun r hr => S.row r (hsub.subset hr), S.bb, fun r hr => S.rb r (hsub.subset hr), S.rr.sublist hsub⟩, Le.refl _, Sl.nil k R F⟩
  · have hle : Le F (addF F w g) := fun b o hb => addF_le _ _ _ _ _ hb
    have hr0 := (S.row _ hm).2 g (by show v.ownBlock = _; rw [hv]; rfl)
    have hF : addF F w g g = some (.cells cur E (0, 0)) := by unfold addF; rw [hr0.2.1]; simp [q3]
    refine ⟨addF F w g, ⟨S.gr.add hr0.2.2, fun x hx => ?_, fun r hr => ?_, S.bb, fun r hr => S.rb r (hsub.subset hr), S.rr.sublist hsub⟩, hle, el, ?_, h2.imp fun x p => hR _ _ x p hle, h3⟩
    · have := S.blk x hx
      have hne : x.n ≠ g := fun e => S.rb _ hm x hx (by show v.ownBlock = _; rw [hv, e]; rfl)
      exact ⟨this.1, by rw [addF_old hne]; exact this.2.1, this.2.2⟩
    · have hr1 := S.row r (hsub.subset hr)
      have hn : ∀ b, r.ob = some b → addF F w g b = none := fun b hb' => by
        rw [addF_old (fun e => hother r hr g (by rw [hv]; rfl) (by rw [hb', e]))]
        exact (hr1.2 b hb').2.1
      exact ⟨r.stable _ _ _ _ hr1.1 (fun _ _ => rfl) hle hn, fun b hb' => ⟨(hr1.2 b hb').1, hn b hb', (hr1.2 b hb').2.2⟩⟩
    · subst hv
      refine Rw.of_cells q4.1 q4.2.1 fun j u hu => ?_
      rw [← q4.2.2.2, List.getElem?_take] at hu
      split at hu
      · unfold cellF; rw [hF, Nat.zero_add]; simpa using hu
      · cases hu
end
end Go.Proofs.YtikklmjengkliaaDoor
