/- Roots: plain laws. No program in sight. -/
import Derived.Test.YteefnnnbbmbmcaaD0
import Derived.Test.YteefnnnbbmbmcaaP2
namespace Go.Proofs.Yteefnnnbbmbmcaa
open Go.RowKit

def leafT (p : Pr) : By := partsL 1 [p.1, p.2]
def forkT (bit : Nat) (a b : By) : By := partsL 2 [[UInt8.ofNat bit], a, b]
/-- The first bit at which the first and the last one part. -/
def bitT (l : List Pr) : Nat := match l.head?, l.getLast? with
  | some p, some q => (partL p.1 q.1).toNat
  | _, _ => 0
def leftN (bit : Nat) (l : List Pr) : Nat := (l.takeWhile fun p => !bitL p.1 bit).length
theorem leftN_le (bit : Nat) (l : List Pr) : leftN bit l ≤ l.length := (List.takeWhile_prefix _).length_le
def rootN : Nat → List Pr → By
  | 0, _ => partsL 0 []
  | _ + 1, [] => partsL 0 []
  | _ + 1, [p] => leafT p
  | n + 1, p :: q :: l => forkT (bitT (p :: q :: l)) (rootN n ((p :: q :: l).take (leftN (bitT (p :: q :: l)) (p :: q :: l)))) (rootN n ((p :: q :: l).drop (leftN (bitT (p :: q :: l)) (p :: q :: l))))
def rootT (l : List Pr) : By := rootN l.length l
/-- A key between two that part agrees with both up to there. -/
theorem bit_between {a x b : By} {n : Nat} (h : partL a b = n) (h1 : a = x ∨ Lt a x) (h2 : x = b ∨ Lt x b) : ∀ j, j < n → bitL x j = bitL a j := by
  rcases partL_spec a b with ⟨h0, _⟩ | ⟨m, m1, m2, m3, m4⟩
  · omega
  have hm : m = n := by omega
  subst hm
  intro j hj
  have key : ∀ j, j < m → (∀ i, i < j → bitL x i = bitL a i) → bitL x j = bitL a j := by
    intro j hj ih
    cases hx : bitL x j with
    | true =>
      cases ha : bitL a j with
      | true => rfl
      | false =>
        exfalso
        have hb : bitL b j = false := by rw [← m4 j hj]; exact ha
        have := key_less b x j (fun i hi => by rw [← m4 i (by omega)]; exact (ih i hi).symm) hb hx
        rcases h2 with rfl | h2
        · rw [less_irrefl] at this; cases this
        · rw [less_asymm _ _ h2] at this; cases this
    | false =>
      cases ha : bitL a j with
      | false => rfl
      | true =>
        exfalso
        have := key_less x a j (fun i hi => ih i hi) hx ha
        rcases h1 with rfl | h1
        · rw [less_irrefl] at this; cases this
        · rw [less_asymm _ _ h1] at this; cases this
  revert j
  intro j
  induction j using Nat.strongRecOn with
  | _ j ih => exact fun hj => key j hj fun i hi => ih i hi (by omega)
structure KeysOk (l : List Pr) : Prop where
  key : ∀ p ∈ l, 1 ≤ p.1.length ∧ p.1.length ≤ 16
  rise : Rise l
theorem KeysOk.sub {l m : List Pr} (h : KeysOk l) (hs : m.Sublist l) : KeysOk m := ⟨fun p hp => h.key p (hs.subset hp), h.rise.sublist hs⟩
theorem bitT_spec {l : List Pr} (h : KeysOk l) (h2 : 2 ≤ l.length) : bitT l < 145 ∧ partL (l[0]'(by omega)).1 (l[l.length - 1]'(by omega)).1 = bitT l ∧ bitL (l[0]'(by omega)).1 (bitT l) = false ∧ bitL (l[l.length - 1]'(by omega)).1 (bitT l) = true := by
  have e1 : l.head? = some (l[0]'(by omega)) := by rw [List.head?_eq_getElem?, List.getElem?_eq_getElem]
  have e2 : l.getLast? = some (l[l.length - 1]'(by omega)) := by rw [List.getLast?_eq_getElem?, List.getElem?_eq_getElem]
  have hlt : Lt (l[0]'(by omega)).1 (l[l.length - 1]'(by omega)).1 := List.pairwise_iff_getElem.1 h.rise 0 (l.length - 1) (by omega) (by omega) (by omega)
  have hb : bitT l = (partL (l[0]'(by omega)).1 (l[l.length - 1]'(by omega)).1).toNat := by unfold bitT; rw [e1, e2]
  generalize hx : (l[0]'(by omega)).1 = x at *
  generalize hy : (l[l.length - 1]'(by omega)).1 = y at *
  have hxl : x.length ≤ 16 := by rw [← hx]; exact (h.key _ (List.getElem_mem _)).2
  have hyl : y.length ≤ 16 := by rw [← hy]; exact (h.key _ (List.getElem_mem _)).2
  rcases partL_spec x y with ⟨h0, _⟩ | ⟨m, m1, m2, m3, m4⟩
  · exact absurd (partL_eq hxl hyl h0) (less_ne hlt)
  · have hbm : bitT l = m := by rw [hb, m2]; rfl
    rw [hbm]
    have e := partL_less (a := x) (b := y) m2
    rw [hlt] at e
    refine ⟨m1, m2, ?_, e⟩
    rw [e] at m3
    cases hq : bitL x m with
    | false => rfl
    | true => rw [hq] at m3; exact absurd rfl m3
theorem side_bits {l : List Pr} (h : KeysOk l) (h2 : 2 ≤ l.length) : ∀ (i : Nat) (hi : i < l.length), ∀ j, j < bitT l → bitL l[i].1 j = bitL (l[0]'(by omega)).1 j := by
  obtain ⟨b1, b2, b3, b4⟩ := bitT_spec h h2
  intro i hi
  refine bit_between b2 ?_ ?_
  · by_cases h0 : i = 0
    · subst h0; exact .inl rfl
    · exact .inr (List.pairwise_iff_getElem.1 h.rise 0 i (by omega) hi (by omega))
  · by_cases h0 : i = l.length - 1
    · subst h0; exact .inl rfl
    · exact .inr (List.pairwise_iff_getElem.1 h.rise i (l.length - 1) hi (by omega) (by omega))
/-- Those with 0 at the bit stand ahead of those with 1. -/
theorem side_mono {l : List Pr} (h : KeysOk l) (h2 : 2 ≤ l.length) {i k : Nat} (hi : i < l.length) (hk : k < l.length) (hik : i < k) (hb : bitL l[i].1 (bitT l) = true) : bitL l[k].1 (bitT l) = true := by
  cases hc : bitL l[k].1 (bitT l) with
  | true => rfl
  | false =>
    have := key_less l[k].1 l[i].1 (bitT l) (fun j hj => by rw [side_bits h h2 k hk j hj, side_bits h h2 i hi j hj]) hc hb
    have h3 := List.pairwise_iff_getElem.1 h.rise i k hi hk hik
    rw [less_asymm _ _ h3] at this
    cases this
theorem leftN_lt {bit : Nat} {l : List Pr} {i : Nat} (hi : i < leftN bit l) (h : i < l.length) : bitL l[i].1 bit = false := by
  unfold leftN at hi
  have e : (l.takeWhile fun p => !bitL p.1 bit)[i] = l[i] := (List.takeWhile_prefix _).getElem hi
  have hp := List.all_eq_true.1 (List.all_takeWhile (p := fun p : Pr => !bitL p.1 bit) (l := l)) _ (List.getElem_mem hi)
  rw [e] at hp
  simpa using hp
theorem leftN_at {bit : Nat} : ∀ {l : List Pr} (h : leftN bit l < l.length), bitL l[leftN bit l].1 bit = true
  | [], h => by simp at h
  | p :: l, h => by
    cases hb : bitL p.1 bit with
    | true =>
      have : leftN bit (p :: l) = 0 := by simp [leftN, hb]
      simp only [this, List.getElem_cons_zero]
      exact hb
    | false =>
      have e : leftN bit (p :: l) = leftN bit l + 1 := by simp [leftN, hb]
      simp only [e, List.getElem_cons_succ]
      exact leftN_at (by rw [e] at h; simpa using h)
theorem leftN_spec {l : List Pr} (h : KeysOk l) (h2 : 2 ≤ l.length) : 0 < leftN (bitT l) l ∧ leftN (bitT l) l < l.length := by
  obtain ⟨b1, b2, b3, b4⟩ := bitT_spec h h2
  constructor
  · rcases Nat.eq_zero_or_pos (leftN (bitT l) l) with h0 | h0
    · have := leftN_at (bit := bitT l) (l := l) (by omega)
      simp only [h0] at this
      rw [b3] at this; cases this
    · exact h0
  · rcases Nat.lt_or_ge (leftN (bitT l) l) l.length with h0 | h0
    · exact h0
    · have := leftN_lt (bit := bitT l) (l := l) (i := l.length - 1) (by omega) (by omega)
      rw [b4] at this; cases this
theorem leftN_unique {bit : Nat} {l : List Pr} {n : Nat} (hn : n ≤ l.length) (h1 : ∀ (i : Nat) (h : i < l.length), i < n → bitL l[i].1 bit = false) (h2 : ∀ h : n < l.length, bitL l[n].1 bit = true) : leftN bit l = n := by
  rcases Nat.lt_trichotomy (leftN bit l) n with h | h | h
  · have := leftN_at (bit := bit) (l := l) (by omega)
    rw [h1 _ _ h] at this; cases this
  · exact h
  · have hl := leftN_le bit l
    have := leftN_lt (bit := bit) h (by omega)
    rw [h2 (by omega)] at this; cases this
/-- Enough fuel is enough. -/
theorem rootN_fuel : ∀ (n m : Nat) (l : List Pr), KeysOk l → l.length ≤ n → l.length ≤ m → rootN n l = rootN m l
  | 0, 0, _, _, _, _ => rfl
  | 0, m + 1, [], _, _, _ => rfl
  | n + 1, 0, [], _, _, _ => rfl
  | n + 1, m + 1, [], _, _, _ => rfl
  | 0, _, _ :: _, _, h, _ => by simp at h
  | _, 0, _ :: _, _, _, h => by simp at h
  | n + 1, m + 1, [p], _, _, _ => rfl
  | n + 1, m + 1, p :: q :: l, hk, h1, h2 => by
    have hs := leftN_spec hk (by simp)
    unfold rootN
    generalize hL : p :: q :: l = L at *
    have e1 : (L.take (leftN (bitT L) L)).length < L.length := by rw [List.length_take]; omega
    have e2 : (L.drop (leftN (bitT L) L)).length < L.length := by rw [List.length_drop]; omega
    rw [rootN_fuel n m (L.take (leftN (bitT L) L)) (hk.sub (List.take_sublist _ _)) (by omega) (by omega), rootN_fuel n m (L.drop (leftN (bitT L) L)) (hk.sub (List.drop_sublist _ _)) (by omega) (by omega)]
theorem rootT_nil : rootT [] = partsL 0 [] := rfl
theorem rootT_one (p : Pr) : rootT [p] = leafT p := rfl
theorem rootT_fork {l : List Pr} (h : KeysOk l) (h2 : 2 ≤ l.length) : rootT l = forkT (bitT l) (rootT (l.take (leftN (bitT l) l))) (rootT (l.drop (leftN (bitT l) l))) := by
  have hs := leftN_spec h h2
  have e1 : (l.take (leftN (bitT l) l)).length < l.length := by rw [List.length_take]; omega
  have e2 : (l.drop (leftN (bitT l) l)).length < l.length := by rw [List.length_drop]; omega
  match l, h2 with
  | p :: q :: l, _ =>
    unfold rootT
    rw [rootN_fuel _ (l.length + 1) _ (h.sub (List.take_sublist _ _)) (Nat.le_refl _) (by simp at e1 ⊢; omega), rootN_fuel _ (l.length + 1) _ (h.sub (List.drop_sublist _ _)) (Nat.le_refl _) (by simp at e2 ⊢; omega)]
    rfl
theorem rootT_len (l : List Pr) : (rootT l).length = 32 := by
  unfold rootT
  have : ∀ n l, (rootN n l).length = 32 := by
    intro n l
    match n, l with
    | 0, _ => exact partsL_len _ _
    | _ + 1, [] => exact partsL_len _ _
    | _ + 1, [p] => exact partsL_len _ _
    | _ + 1, _ :: _ :: _ => exact partsL_len _ _
  exact this _ _
theorem TreeOk.keys {n : Nat} {l : List Pr} (h : TreeOk n l) : KeysOk l := ⟨fun p hp => ⟨(h.ok p hp).1, (h.ok p hp).2.1⟩, h.rise⟩
end Go.Proofs.Yteefnnnbbmbmcaa
