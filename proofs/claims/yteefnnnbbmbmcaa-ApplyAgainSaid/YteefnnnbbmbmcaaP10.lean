/- What the laws' own words make of raw pairs: plain laws. No program in sight. -/
import Derived.Test.YteefnnnbbmbmcaaP3
import Derived.Test.YteefnnnbbmbmcaaB
namespace Go.Proofs.Yteefnnnbbmbmcaa
open Go.RowKit
def itemP (it : Pr) : Pr := (keyL it.1, it.2.take 32)
def pairsN (l : List Pr) (n : Nat) : List Pr := (l.take n).foldl (fun acc it => putT acc (itemP it).1 (itemP it).2) []
theorem itemP_ok (it : Pr) : PairOk (itemP it) := ⟨(keyL_len it.1).1, (keyL_len it.1).2, by simp [itemP]; omega⟩
theorem pairsN_succ {l : List Pr} {k : Nat} {it : Pr} (h : l[k]? = some it) : pairsN l (k + 1) = putT (pairsN l k) (itemP it).1 (itemP it).2 := by
  obtain ⟨hk, rfl⟩ := List.getElem?_eq_some_iff.1 h
  unfold pairsN
  rw [List.take_succ_eq_append_getElem hk, List.foldl_append]
  rfl
theorem pairsN_end {l : List Pr} {k m : Nat} (h : l.length ≤ k) (hm : k ≤ m) : pairsN l k = pairsN l m := by
  unfold pairsN; rw [List.take_of_length_le h, List.take_of_length_le (by omega)]
theorem pairsN_ok (l : List Pr) : ∀ k, TreeOk k (pairsN l k)
  | 0 => by unfold pairsN; simp; exact TreeOk.nil 0
  | k + 1 => by
    have ih := pairsN_ok l k
    rcases Nat.lt_or_ge k l.length with h | h
    · rw [pairsN_succ (List.getElem?_eq_getElem h)]
      refine ih.put (m := k + 1) (itemP_ok _) ?_
      rw [len_putT]
      have := ih.len
      split <;> omega
    · rw [← pairsN_end h (show k ≤ k + 1 by omega)]
      exact ih.mono (by omega)
theorem pairsN_len (l : List Pr) (k : Nat) : (pairsN l k).length ≤ k := (pairsN_ok l k).len
theorem pairsN_rise (l : List Pr) (k : Nat) : Rise (pairsN l k) := (pairsN_ok l k).rise
theorem TreeOk.small {n : Nat} {l : List Pr} (h : TreeOk n l) {p : Pr} (hp : p ∈ l) : p.1.length ≤ 100000 ∧ p.2.length ≤ 100000 := by
  obtain ⟨_, h2, h3⟩ := h.ok p hp; omega
/-- Where a pair is put. -/
theorem putT_have {l : List Pr} {k v : By} (h : hasT l k = true) : putT l k v = l.set (posT l k) (k, v) := by unfold putT; rw [if_pos h]
theorem putT_new {l : List Pr} {k v : By} (h : ¬ hasT l k = true) : putT l k v = l.take (posT l k) ++ (k, v) :: l.drop (posT l k) := by unfold putT; rw [if_neg h]
theorem less0 : ∀ k : By, Op.bytesLess k [0] = (match k with | [] => true | _ => false)
  | [] => rfl
  | x :: k => by
    have : ¬ x < 0 := by simp [UInt8.lt_iff_toNat_lt]
    cases k <;> simp [Op.bytesLess, this]
theorem less_last : ∀ (n : Nat) (k : By), k.length ≤ n → Op.bytesLess (List.replicate n 255) k = false
  | 0, k, h => by have : k = [] := List.eq_nil_of_length_eq_zero (by omega); subst this; rfl
  | n + 1, [], _ => by simp [List.replicate_succ, Op.bytesLess]
  | n + 1, x :: k, h => by
    have hx : ¬ (255 : UInt8) < x := by have := x.toNat_lt; simp [UInt8.lt_iff_toNat_lt]; omega
    have ih := less_last n k (by simpa using h)
    simp [List.replicate_succ, Op.bytesLess, hx, ih]
theorem range_all {n : Nat} {l : List Pr} (h : TreeOk n l) : rangeT l [0] (List.replicate 16 255) = l := by
  unfold rangeT
  rw [List.filter_eq_self]
  intro p hp
  obtain ⟨h1, h2, _⟩ := h.ok p hp
  rw [less_last 16 p.1 h2, less0]
  cases hk : p.1 with
  | nil => rw [hk] at h1; simp at h1
  | cons _ _ => rfl
end Go.Proofs.Yteefnnnbbmbmcaa
