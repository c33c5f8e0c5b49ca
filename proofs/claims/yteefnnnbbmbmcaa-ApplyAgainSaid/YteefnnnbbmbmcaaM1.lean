/- Keys as bits: plain laws. No program in sight. -/
import Derived.Test.YteefnnnbbmbmcaaB
namespace Go.Proofs.Yteefnnnbbmbmcaa
open Go.RowKit

theorem bitL_nil (i : Nat) : bitL [] i = false := by simp [bitL]
theorem bitL_zero (x : UInt8) (a : List UInt8) : bitL (x :: a) 0 = true := by simp [bitL]
theorem bitL_low (x : UInt8) (a : List UInt8) (i : Nat) (h1 : 1 ≤ i) (h2 : i < 9) : bitL (x :: a) i = x.toNat.testBit (8 - i) := by
  unfold bitL
  have e : i / 9 = 0 := by omega
  have e2 : i % 9 = i := by omega
  rw [e, e2, if_pos (by simp), if_neg (by omega)]
  rfl
theorem bitL_high (x : UInt8) (a : List UInt8) (i : Nat) : bitL (x :: a) (i + 9) = bitL a i := by
  unfold bitL
  have e : (i + 9) / 9 = i / 9 + 1 := by omega
  have e2 : (i + 9) % 9 = i % 9 := by omega
  rw [e, e2]
  simp only [List.length_cons, Nat.add_lt_add_iff_right, List.getD_cons_succ]
theorem byte_ext (x y : UInt8) (h : ∀ i, 1 ≤ i → i < 9 → x.toNat.testBit (8 - i) = y.toNat.testBit (8 - i)) : x = y := by
  apply UInt8.toNat_inj.1
  apply Nat.eq_of_testBit_eq
  intro j
  by_cases hj : j < 8
  · have := h (8 - j) (by omega) (by omega)
    rwa [show 8 - (8 - j) = j from by omega] at this
  · have p : 256 ≤ 2 ^ j := (show (256 : Nat) = 2 ^ 8 from rfl) ▸ Nat.pow_le_pow_right (by omega) (by omega)
    rw [Nat.testBit_lt_two_pow (Nat.lt_of_lt_of_le (UInt8.toNat_lt x) p), Nat.testBit_lt_two_pow (Nat.lt_of_lt_of_le (UInt8.toNat_lt y) p)]
theorem byte_lt (x y : UInt8) (n : Nat) (h1 : 1 ≤ n) (h2 : n < 9) (h : ∀ i, 1 ≤ i → i < n → x.toNat.testBit (8 - i) = y.toNat.testBit (8 - i))
    (hx : x.toNat.testBit (8 - n) = false) (hy : y.toNat.testBit (8 - n) = true) : x.toNat < y.toNat := by
  have hq : x.toNat / 2 ^ (8 - n + 1) = y.toNat / 2 ^ (8 - n + 1) := by
    apply Nat.eq_of_testBit_eq
    intro j
    rw [Nat.testBit_div_two_pow, Nat.testBit_div_two_pow]
    by_cases h8 : j + (8 - n + 1) < 8
    · have := h (8 - (j + (8 - n + 1))) (by omega) (by omega)
      rwa [show 8 - (8 - (j + (8 - n + 1))) = j + (8 - n + 1) from by omega] at this
    · have p : 256 ≤ 2 ^ (j + (8 - n + 1)) := (show (256 : Nat) = 2 ^ 8 from rfl) ▸ Nat.pow_le_pow_right (by omega) (by omega)
      rw [Nat.testBit_lt_two_pow (Nat.lt_of_lt_of_le (UInt8.toNat_lt x) p), Nat.testBit_lt_two_pow (Nat.lt_of_lt_of_le (UInt8.toNat_lt y) p)]
  rw [Nat.pow_succ, ← Nat.div_div_eq_div_mul, ← Nat.div_div_eq_div_mul] at hq
  rw [Nat.testBit_eq_decide_div_mod_eq] at hx hy
  simp only [decide_eq_false_iff_not, decide_eq_true_eq] at hx hy
  exact Nat.lt_of_div_lt_div (c := 2 ^ (8 - n)) (by omega)
/-- Keys of at most m bytes whose bits agree are the same. -/
theorem key_ext : ∀ (m : Nat) (a b : List UInt8), a.length ≤ m → b.length ≤ m → (∀ i, i < 9 * m + 1 → bitL a i = bitL b i) → a = b
  | _, [], [], _, _, _ => rfl
  | m, [], y :: b, _, hb, h => by have := h 0 (by omega); rw [bitL_nil, bitL_zero] at this; cases this
  | m, x :: a, [], ha, _, h => by have := h 0 (by omega); rw [bitL_nil, bitL_zero] at this; cases this
  | 0, x :: a, y :: b, ha, _, _ => by simp at ha
  | m + 1, x :: a, y :: b, ha, hb, h => by
    have e : x = y := byte_ext x y fun i h1 h2 => by
      have := h i (by omega)
      rwa [bitL_low x a i h1 h2, bitL_low y b i h1 h2] at this
    have ih := key_ext m a b (by simpa using ha) (by simpa using hb) fun i hi => by
      have := h (i + 9) (by omega)
      rwa [bitL_high, bitL_high] at this
    rw [e, ih]
theorem key_less : ∀ (a b : List UInt8) (n : Nat), (∀ i, i < n → bitL a i = bitL b i) → bitL a n = false → bitL b n = true → Op.bytesLess a b = true
  | _, [], n, _, _, hb => by rw [bitL_nil] at hb; cases hb
  | [], _ :: _, _, _, _, _ => by simp [Op.bytesLess]
  | x :: a, y :: b, n, h, ha, hb => by
    by_cases h0 : n = 0
    · subst h0; rw [bitL_zero] at ha; cases ha
    · by_cases h9 : n < 9
      · rw [bitL_low x a n (by omega) h9] at ha
        rw [bitL_low y b n (by omega) h9] at hb
        have hlt : x.toNat < y.toNat := byte_lt x y n (by omega) h9 (fun i h1 h2 => by
          have := h i h2
          rwa [bitL_low x a i h1 (by omega), bitL_low y b i h1 (by omega)] at this) ha hb
        simp only [Op.bytesLess, Bool.or_eq_true, decide_eq_true_eq]
        exact .inl hlt
      · obtain ⟨k, rfl⟩ : ∃ k, n = k + 9 := ⟨n - 9, by omega⟩
        have e : x = y := byte_ext x y fun i h1 h2 => by
          have := h i (by omega)
          rwa [bitL_low x a i h1 h2, bitL_low y b i h1 h2] at this
        subst e
        rw [bitL_high] at ha hb
        have ih := key_less a b k (fun i hi => by have := h (i + 9) (by omega); rwa [bitL_high, bitL_high] at this) ha hb
        simp only [Op.bytesLess, ih]
        simp
theorem less_irrefl : ∀ a : List UInt8, Op.bytesLess a a = false
  | [] => rfl
  | x :: a => by simp [Op.bytesLess, less_irrefl a]
theorem less_asymm : ∀ a b : List UInt8, Op.bytesLess a b = true → Op.bytesLess b a = false
  | _, [], h => by cases ‹List UInt8› <;> cases h
  | [], _ :: _, _ => rfl
  | x :: a, y :: b, h => by
    simp only [Op.bytesLess, Bool.or_eq_true, decide_eq_true_eq, Bool.and_eq_true, beq_iff_eq] at h
    simp only [Op.bytesLess, Bool.or_eq_false_iff, decide_eq_false_iff_not, Bool.and_eq_false_iff]
    rcases h with h | ⟨rfl, h⟩
    · refine ⟨fun k => ?_, .inl ?_⟩
      · have h1 := UInt8.lt_iff_toNat_lt.1 h; have h2 := UInt8.lt_iff_toNat_lt.1 k; omega
      · rw [beq_eq_false_iff_ne]
        rintro rfl
        have h1 := UInt8.lt_iff_toNat_lt.1 h; omega
    · exact ⟨fun k => by have h2 := UInt8.lt_iff_toNat_lt.1 k; omega, .inr (less_asymm a b h)⟩
/-- What the first place is at which two keys differ. -/
theorem partFrom_neg : ∀ (a b : List UInt8) (n i : Nat), partFrom a b n i = -1 → ∀ j, i ≤ j → j < i + n → bitL a j = bitL b j
  | _, _, 0, i, _, j, h1, h2 => by omega
  | a, b, n + 1, i, h, j, h1, h2 => by
    rw [partFrom] at h
    split at h
    · rename_i he
      by_cases hj : j = i
      · rw [hj]; exact he
      · exact partFrom_neg a b n (i + 1) h j (by omega) (by omega)
    · omega
theorem partFrom_pos : ∀ (a b : List UInt8) (n i : Nat) (m : Int), partFrom a b n i = m → 0 ≤ m → (i : Int) ≤ m ∧ m < i + n ∧ bitL a m.toNat ≠ bitL b m.toNat ∧ ∀ j, i ≤ j → j < m.toNat → bitL a j = bitL b j
  | _, _, 0, i, m, h, h0 => by rw [partFrom] at h; omega
  | a, b, n + 1, i, m, h, h0 => by
    rw [partFrom] at h
    split at h
    · rename_i he
      obtain ⟨h1, h2, h3, h4⟩ := partFrom_pos a b n (i + 1) m h h0
      refine ⟨by omega, by omega, h3, fun j j1 j2 => ?_⟩
      by_cases hj : j = i
      · rw [hj]; exact he
      · exact h4 j (by omega) j2
    · rename_i he
      subst h
      exact ⟨by omega, by omega, by simpa using he, fun j j1 j2 => by simp at j2; omega⟩
theorem partFrom_ge : ∀ (a b : List UInt8) (n i : Nat), -1 ≤ partFrom a b n i
  | _, _, 0, _ => by rw [partFrom]; omega
  | a, b, n + 1, i => by
    rw [partFrom]
    split
    · exact partFrom_ge a b n (i + 1)
    · omega
theorem partL_ge (a b : List UInt8) : -1 ≤ partL a b := partFrom_ge a b 145 0
/-- All that a place tells: nothing differs; or it is the first one. -/
theorem partL_spec (a b : List UInt8) : (partL a b = -1 ∧ ∀ j, j < 145 → bitL a j = bitL b j) ∨
    ∃ n : Nat, n < 145 ∧ partL a b = n ∧ bitL a n ≠ bitL b n ∧ ∀ j, j < n → bitL a j = bitL b j := by
  by_cases h : partL a b = -1
  · exact .inl ⟨h, fun j hj => partFrom_neg a b 145 0 h j (by omega) (by omega)⟩
  · have hg := partL_ge a b
    obtain ⟨h1, h2, h3, h4⟩ := partFrom_pos a b 145 0 (partL a b) rfl (by omega)
    refine .inr ⟨(partL a b).toNat, by omega, by omega, h3, fun j hj => h4 j (by omega) hj⟩
theorem partL_unique {a b : List UInt8} {n : Nat} (h1 : n < 145) (h2 : bitL a n ≠ bitL b n) (h3 : ∀ j, j < n → bitL a j = bitL b j) : partL a b = n := by
  rcases partL_spec a b with ⟨_, h⟩ | ⟨m, m1, m2, m3, m4⟩
  · exact absurd (h n h1) h2
  · rw [m2]
    congr 1
    rcases Nat.lt_trichotomy m n with h | h | h
    · exact absurd (h3 m h) m3
    · exact h
    · exact absurd (m4 n h) h2
theorem partL_none {a b : List UInt8} (h : ∀ j, j < 145 → bitL a j = bitL b j) : partL a b = -1 := by
  rcases partL_spec a b with ⟨h1, _⟩ | ⟨m, m1, _, m3, _⟩
  · exact h1
  · exact absurd (h m m1) m3
theorem partL_comm (a b : List UInt8) : partL a b = partL b a := by
  rcases partL_spec a b with ⟨h1, h2⟩ | ⟨m, m1, m2, m3, m4⟩
  · rw [h1, partL_none fun j hj => (h2 j hj).symm]
  · rw [m2, partL_unique m1 (Ne.symm m3) fun j hj => (m4 j hj).symm]
theorem partL_self (a : List UInt8) : partL a a = -1 := partL_none fun _ _ => rfl
theorem partL_eq {a b : List UInt8} (ha : a.length ≤ 16) (hb : b.length ≤ 16) (h : partL a b = -1) : a = b := by
  rcases partL_spec a b with ⟨_, h2⟩ | ⟨m, m1, m2, _, _⟩
  · exact key_ext 16 a b ha hb fun i hi => h2 i (by omega)
  · omega
theorem partL_neg_iff {a b : List UInt8} (ha : a.length ≤ 16) (hb : b.length ≤ 16) : (partL a b < 0) ↔ a = b := by
  have := partL_ge a b
  constructor
  · intro h; exact partL_eq ha hb (by omega)
  · rintro rfl; rw [partL_self]; omega
/-- Of two keys that part the one with 0 there stands first. -/
theorem partL_less {a b : List UInt8} {n : Nat} (h : partL a b = n) : bitL b n = Op.bytesLess a b := by
  rcases partL_spec a b with ⟨h1, _⟩ | ⟨m, m1, m2, m3, m4⟩
  · omega
  · have : m = n := by omega
    subst this
    cases hb : bitL b m with
    | true =>
      have ha : bitL a m = false := by cases ha : bitL a m with | false => rfl | true => rw [ha, hb] at m3; exact absurd rfl m3
      rw [key_less a b m m4 ha hb]
    | false =>
      have ha : bitL a m = true := by cases ha : bitL a m with | true => rfl | false => rw [ha, hb] at m3; exact absurd rfl m3
      rw [less_asymm b a (key_less b a m (fun i hi => (m4 i hi).symm) hb ha)]
/-- Of three keys two part first. -/
theorem partL_three (a b c : List UInt8) (hx : 0 ≤ partL a b) (hy : 0 ≤ partL b c) (hz : 0 ≤ partL a c) :
    min (partL a b) (partL b c) ≤ partL a c ∧ (partL a b = partL b c ∨ partL a c = min (partL a b) (partL b c)) := by
  rcases partL_spec a b with ⟨h, _⟩ | ⟨x, x1, x2, x3, x4⟩
  · omega
  rcases partL_spec b c with ⟨h, _⟩ | ⟨y, y1, y2, y3, y4⟩
  · omega
  rcases partL_spec a c with ⟨h, _⟩ | ⟨z, z1, z2, z3, z4⟩
  · omega
  rw [x2, y2, z2]
  rcases Nat.lt_trichotomy x y with h | h | h
  · have e : z = x := by
      have := partL_unique (a := a) (b := c) x1 (by rw [← y4 x h]; exact x3) (fun j hj => (x4 j hj).trans (y4 j (by omega)))
      omega
    omega
  · refine ⟨?_, .inl (by omega)⟩
    rcases Nat.lt_or_ge z x with hzx | hzx
    · exact absurd ((x4 z hzx).trans (y4 z (by omega))) z3
    · omega
  · have e : z = y := by
      have := partL_unique (a := a) (b := c) y1 (by rw [x4 y h]; exact y3) (fun j hj => (x4 j (by omega)).trans (y4 j hj))
      omega
    omega
end Go.Proofs.Yteefnnnbbmbmcaa
