/- What the laws on trees say: plain laws. No program in sight. -/
import Derived.Test.YteefnnnbbmbmcaaP1
namespace Go.Proofs.Yteefnnnbbmbmcaa
open Go.RowKit

section
variable {α : Type}
theorem posT_mono (l : List (By × α)) {a b : By} (h : ¬ Lt b a) : posT l a ≤ posT l b := by
  induction l with
  | nil => simp [posT, posBy]
  | cons p l ih =>
    unfold posT at *
    rw [posBy_cons, posBy_cons]
    by_cases h1 : Op.bytesLess p.1 a = true
    · have h2 : Op.bytesLess p.1 b = true := by
        cases hx : Op.bytesLess p.1 b with
        | true => rfl
        | false =>
          cases hy : Op.bytesLess b p.1 with
          | true => exact absurd (less_trans _ _ _ hy h1) h
          | false => rw [less_total _ _ hx hy] at h1; exact absurd h1 h
      rw [if_pos h1, if_pos h2]
      omega
    · rw [if_neg h1]
      omega
theorem take_drop_append (l : List α) {i j k : Nat} (h1 : i ≤ j) (h2 : j ≤ k) : (l.take j).drop i ++ (l.take k).drop j = (l.take k).drop i := by
  apply List.ext_getElem?
  intro n
  simp only [List.getElem?_append, List.getElem?_drop, List.getElem?_take, List.length_drop, List.length_take]
  by_cases hn : n < min j l.length - i
  · rw [if_pos hn, if_pos (by omega), if_pos (by omega)]
  · rw [if_neg hn]
    by_cases hj : j ≤ l.length
    · rw [show j + (n - (min j l.length - i)) = i + n from by omega]
    · rw [List.getElem?_eq_none (by omega), List.getElem?_eq_none (by omega)]
      simp
/-- Where a range ends. -/
def endT (l : List (By × α)) (b : By) : Nat := if hasT l b then posT l b + 1 else posT l b
theorem endT_le {l : List (By × α)} (hr : Rise l) (b : By) : endT l b ≤ l.length := by
  unfold endT
  split
  · rename_i h
    obtain ⟨h1, _⟩ := (hasBy_at hr).1 h
    exact h1
  · exact posBy_le _ _ _
theorem posT_endT (l : List (By × α)) (b : By) : posT l b ≤ endT l b := by unfold endT; split <;> omega
theorem endT_mono {l : List (By × α)} (hr : Rise l) {b c : By} (h : ¬ Lt c b) : endT l b ≤ endT l c := by
  have h1 := posT_mono l h
  have h2 := posT_endT l c
  unfold endT at *
  split
  · rename_i hb
    split
    · omega
    · rename_i hc
      obtain ⟨b1, b2⟩ := (hasBy_at hr).1 hb
      rcases Nat.lt_or_eq_of_le h1 with h3 | h3
      · exact h3
      · exfalso
        by_cases e : b = c
        · subst e; exact hc hb
        · have hlt : Lt b c := by
            cases hx : Op.bytesLess b c with
            | true => exact hx
            | false => exact absurd (less_total _ _ hx (by simpa using h)) e
          have := posBy_ge hr (Nat.le_of_eq h3.symm) b1
          rw [show l[posBy (·.1) l b].1 = b from b2] at this
          exact this hlt
  · omega
theorem rangeT_end {l : List (By × α)} (hr : Rise l) (a b : By) : rangeT l a b = (l.take (endT l b)).drop (posT l a) := rangeT_slice hr a b
/-- Two ranges that meet are one. -/
theorem range_parts {l : List (By × α)} (hr : Rise l) {a b c : By} (hab : ¬ Lt b a) (hbc : ¬ Lt c b) :
    (if hasT l b ∧ 0 < (rangeT l a b).length then (rangeT l a b).take ((rangeT l a b).length - 1) else rangeT l a b) ++ rangeT l b c = rangeT l a c := by
  have p1 := posT_mono l hab
  have p2 := posT_mono l hbc
  have e1 := endT_mono hr hbc
  have q1 := endT_le hr b
  have q2 := posT_endT l b
  rw [rangeT_end hr a b, rangeT_end hr b c, rangeT_end hr a c]
  have : (if hasT l b = true ∧ 0 < (List.drop (posT l a) (List.take (endT l b) l)).length then
      (List.drop (posT l a) (List.take (endT l b) l)).take ((List.drop (posT l a) (List.take (endT l b) l)).length - 1)
    else List.drop (posT l a) (List.take (endT l b) l)) = (l.take (posT l b)).drop (posT l a) := by
    by_cases hb : hasT l b = true
    · have he : endT l b = posT l b + 1 := by unfold endT; rw [if_pos hb]
      rw [if_pos ⟨hb, by simp; omega⟩]
      rw [List.take_drop, List.take_take]
      simp only [List.length_drop, List.length_take]
      rw [show min (posT l a + (min (endT l b) l.length - posT l a - 1)) (endT l b) = posT l b from by omega]
    · rw [if_neg (fun h => hb h.1)]
      have he : endT l b = posT l b := by unfold endT; rw [if_neg hb]
      rw [he]
  rw [this]
  exact take_drop_append l p1 (by omega)
theorem rangeT_sub (l : List (By × α)) (a b : By) : (rangeT l a b).length ≤ l.length := List.length_filter_le _ _
end
end Go.Proofs.Yteefnnnbbmbmcaa
