/- Proofs: plain laws. No program in sight. -/
import Derived.Test.YteefnnnbbmbmcaaP5
namespace Go.Proofs.Yteefnnnbbmbmcaa
open Go.RowKit

structure Stp where
  bit : Nat
  right : Bool
  other : By
def sideT (bit : Nat) (r : Bool) (l : List Pr) : List Pr := if r then l.drop (leftN bit l) else l.take (leftN bit l)
def stepsN : Nat → List Pr → By → List Stp × Pr
  | 0, l, _ => ([], l.headD ([], []))
  | n + 1, l, k => if l.length ≤ 1 then ([], l.headD ([], [])) else
    let q := stepsN n (sideT (bitT l) (bitL k (bitT l)) l) k
    (⟨bitT l, bitL k (bitT l), rootT (sideT (bitT l) (!bitL k (bitT l)) l)⟩ :: q.1, q.2)
def up1 (s : Stp) (d : By) : By := if s.right then forkT s.bit s.other d else forkT s.bit d s.other
def upN (s : List Stp) (p : Pr) : By := s.foldr up1 (leafT p)
theorem sideT_sub (bit : Nat) (r : Bool) (l : List Pr) : (sideT bit r l).Sublist l := by
  unfold sideT; split
  · exact List.drop_sublist _ _
  · exact List.take_sublist _ _
theorem sideT_len {l : List Pr} (h : KeysOk l) (h2 : 2 ≤ l.length) (r : Bool) : 1 ≤ (sideT (bitT l) r l).length ∧ (sideT (bitT l) r l).length < l.length := by
  have := leftN_spec h h2
  unfold sideT; split <;> simp only [List.length_drop, List.length_take] <;> omega
theorem sideT_bit {l : List Pr} (h : KeysOk l) (h2 : 2 ≤ l.length) {r : Bool} {p : Pr} (hp : p ∈ sideT (bitT l) r l) : bitL p.1 (bitT l) = r := by
  unfold sideT at hp
  cases r with
  | true =>
    simp only [if_true] at hp
    obtain ⟨i, hi, rfl⟩ := List.mem_iff_getElem.1 hp
    rw [List.length_drop] at hi
    rw [List.getElem_drop]
    have h0 := leftN_at (bit := bitT l) (l := l) (by omega)
    by_cases hz : i = 0
    · subst hz; simpa using h0
    · exact side_mono h h2 (i := leftN (bitT l) l) (k := leftN (bitT l) l + i) (by omega) (by omega) (by omega) h0
  | false =>
    simp only [Bool.false_eq_true, if_false] at hp
    obtain ⟨i, hi, rfl⟩ := List.mem_iff_getElem.1 hp
    rw [List.length_take] at hi
    rw [List.getElem_take]
    exact leftN_lt (by omega) (by omega)
theorem sideT_mem {l : List Pr} (h : KeysOk l) (h2 : 2 ≤ l.length) {p : Pr} (hp : p ∈ l) : p ∈ sideT (bitT l) (bitL p.1 (bitT l)) l := by
  have h3 : p ∈ l.take (leftN (bitT l) l) ++ l.drop (leftN (bitT l) l) := by rw [List.take_append_drop]; exact hp
  rcases List.mem_append.1 h3 with h4 | h4
  · have := sideT_bit h h2 (r := false) (p := p) (by unfold sideT; simpa using h4)
    rw [this]; unfold sideT; simpa using h4
  · have := sideT_bit h h2 (r := true) (p := p) (by unfold sideT; simpa using h4)
    rw [this]; unfold sideT; simpa using h4
theorem agree_bits {l : List Pr} (h : KeysOk l) (h2 : 2 ≤ l.length) {p : Pr} (hp : p ∈ l) {j : Nat} (hj : j < bitT l) : bitL p.1 j = bitL (l[0]'(by omega)).1 j := by
  obtain ⟨i, hi, rfl⟩ := List.mem_iff_getElem.1 hp
  exact side_bits h h2 i hi j hj
/-- All pairs agree in all bits up to B. -/
def Agree (B : Nat) (l : List Pr) : Prop := ∀ p ∈ l, ∀ q ∈ l, ∀ j, j < B → bitL p.1 j = bitL q.1 j
theorem bitT_ge {l : List Pr} (h : KeysOk l) (h2 : 2 ≤ l.length) {B : Nat} (ha : Agree B l) : B ≤ bitT l := by
  obtain ⟨b1, b2, b3, b4⟩ := bitT_spec h h2
  rcases Nat.lt_or_ge (bitT l) B with hlt | hge
  · have := ha _ (List.getElem_mem (show 0 < l.length by omega)) _ (List.getElem_mem (show l.length - 1 < l.length by omega)) _ hlt
    rw [b3, b4] at this; cases this
  · exact hge
theorem sideT_agree {l : List Pr} (h : KeysOk l) (h2 : 2 ≤ l.length) (r : Bool) : Agree (bitT l + 1) (sideT (bitT l) r l) := by
  intro p hp q hq j hj
  by_cases e : j = bitT l
  · subst e; rw [sideT_bit h h2 hp, sideT_bit h h2 hq]
  · have hp' := (sideT_sub _ _ _).subset hp
    have hq' := (sideT_sub _ _ _).subset hq
    rw [agree_bits h h2 hp' (by omega), agree_bits h h2 hq' (by omega)]
/-- Steps that rise from a place on. -/
def RiseS : Nat → List Stp → Prop
  | _, [] => True
  | b, s :: l => b ≤ s.bit ∧ s.bit < 145 ∧ s.other.length = 32 ∧ RiseS (s.bit + 1) l
theorem up_root : ∀ (n : Nat) (l : List Pr) (k : By), KeysOk l → 1 ≤ l.length → l.length ≤ n + 1 → upN (stepsN n l k).1 (stepsN n l k).2 = rootT l
  | 0, [p], _, _, _, _ => rfl
  | 0, [], _, _, h, _ => by simp at h
  | 0, _ :: _ :: _, _, _, _, h => by simp at h
  | n + 1, l, k, h, h1, hn => by
    unfold stepsN
    by_cases hl : l.length ≤ 1
    · rw [if_pos hl]
      obtain ⟨p, rfl⟩ := List.length_eq_one_iff.1 (show l.length = 1 by omega)
      rfl
    · rw [if_neg hl]
      have h2 : 2 ≤ l.length := by omega
      have hs := sideT_len h h2 (bitL k (bitT l))
      have ih := up_root n (sideT (bitT l) (bitL k (bitT l)) l) k (h.sub (sideT_sub _ _ _)) hs.1 (by omega)
      show up1 _ (upN _ _) = _
      rw [ih, rootT_fork h h2]
      unfold up1
      cases hb : bitL k (bitT l) with
      | true => simp [sideT]
      | false => simp [sideT]
theorem steps_rise : ∀ (n : Nat) (l : List Pr) (k : By) (B : Nat), KeysOk l → 1 ≤ l.length → Agree B l → RiseS B (stepsN n l k).1
  | 0, _, _, _, _, _, _ => trivial
  | n + 1, l, k, B, h, h1, ha => by
    unfold stepsN
    by_cases hl : l.length ≤ 1
    · rw [if_pos hl]; trivial
    · rw [if_neg hl]
      have h2 : 2 ≤ l.length := by omega
      have hs := sideT_len h h2 (bitL k (bitT l))
      exact ⟨bitT_ge h h2 ha, (bitT_spec h h2).1, rootT_len _, steps_rise n _ k _ (h.sub (sideT_sub _ _ _)) hs.1 (sideT_agree h h2 _)⟩
theorem steps_pair : ∀ (n : Nat) (l : List Pr) (k : By), KeysOk l → 1 ≤ l.length → (stepsN n l k).2 ∈ l
  | 0, [], _, _, h => by simp at h
  | 0, p :: l, _, _, _ => by simp [stepsN]
  | n + 1, l, k, h, h1 => by
    unfold stepsN
    by_cases hl : l.length ≤ 1
    · rw [if_pos hl]
      obtain ⟨p, rfl⟩ := List.length_eq_one_iff.1 (show l.length = 1 by omega)
      simp
    · rw [if_neg hl]
      have h2 : 2 ≤ l.length := by omega
      have hs := sideT_len h h2 (bitL k (bitT l))
      exact (sideT_sub _ _ _).subset (steps_pair n _ k (h.sub (sideT_sub _ _ _)) hs.1)
theorem steps_way : ∀ (n : Nat) (l : List Pr) (k : By), KeysOk l → 1 ≤ l.length → ∀ s ∈ (stepsN n l k).1, bitL k s.bit = s.right ∧ bitL (stepsN n l k).2.1 s.bit = s.right
  | 0, _, _, _, _, s, hs => by simp [stepsN] at hs
  | n + 1, l, k, h, h1, s, hs => by
    unfold stepsN at hs ⊢
    by_cases hl : l.length ≤ 1
    · rw [if_pos hl] at hs; simp at hs
    · rw [if_neg hl] at hs ⊢
      have h2 : 2 ≤ l.length := by omega
      have hsl := sideT_len h h2 (bitL k (bitT l))
      rcases List.mem_cons.1 hs with rfl | hs
      · exact ⟨rfl, sideT_bit h h2 (steps_pair n _ k (h.sub (sideT_sub _ _ _)) hsl.1)⟩
      · exact steps_way n _ k (h.sub (sideT_sub _ _ _)) hsl.1 s hs
/-- Whoever goes the same way and is there is the one at its end. -/
theorem steps_found : ∀ (n : Nat) (l : List Pr) (k : By), KeysOk l → 1 ≤ l.length → l.length ≤ n + 1 → ∀ p ∈ l, (∀ s ∈ (stepsN n l k).1, bitL p.1 s.bit = s.right) → (stepsN n l k).2 = p
  | 0, [q], _, _, _, _, p, hp, _ => by simp at hp; simp [stepsN, hp]
  | 0, [], _, _, h, _, _, _, _ => by simp at h
  | 0, _ :: _ :: _, _, _, _, h, _, _, _ => by simp at h
  | n + 1, l, k, h, h1, hn, p, hp, hw => by
    unfold stepsN at hw ⊢
    by_cases hl : l.length ≤ 1
    · rw [if_pos hl]
      obtain ⟨q, rfl⟩ := List.length_eq_one_iff.1 (show l.length = 1 by omega)
      simp at hp; simp [hp]
    · rw [if_neg hl] at hw ⊢
      have h2 : 2 ≤ l.length := by omega
      have hs := sideT_len h h2 (bitL k (bitT l))
      have hb := hw _ (List.mem_cons_self ..)
      simp only at hb
      refine steps_found n _ k (h.sub (sideT_sub _ _ _)) hs.1 (by omega) p ?_ (fun s hs => hw s (List.mem_cons_of_mem _ hs))
      have := sideT_mem h h2 hp
      rwa [hb] at this
theorem steps_len : ∀ (n : Nat) (l : List Pr) (k : By), KeysOk l → 1 ≤ l.length → (stepsN n l k).1.length < l.length
  | 0, l, _, _, h1 => by simp [stepsN]; omega
  | n + 1, l, k, h, h1 => by
    unfold stepsN
    by_cases hl : l.length ≤ 1
    · rw [if_pos hl]; simp; omega
    · rw [if_neg hl]
      have h2 : 2 ≤ l.length := by omega
      have hs := sideT_len h h2 (bitL k (bitT l))
      have := steps_len n _ k (h.sub (sideT_sub (bitT l) (bitL k (bitT l)) l)) hs.1
      simp; omega
/-- A proof. -/
structure Prf where
  empty : Bool
  steps : List Stp
  pair : Pr
def proveT (l : List Pr) (k : By) : Prf := if l = [] then ⟨true, [], ([], [])⟩ else ⟨false, (stepsN l.length l k).1, (stepsN l.length l k).2⟩
def upT (p : Prf) : By := if p.empty then rootT [] else upN p.steps p.pair
def wayB (k pk : By) : Int → List Stp → Bool
  | _, [] => true
  | last, s :: l => decide (last < s.bit) && decide (s.bit < 145) && (bitL k s.bit == s.right) && (bitL pk s.bit == s.right) && (s.other.length == 32) && wayB k pk s.bit l
/-- What Check tells of a proof, for a key that may be. -/
def checkP (k : By) (p : Prf) : Bool := if p.empty then p.steps.isEmpty && p.pair.1.isEmpty && p.pair.2.isEmpty else (decide (1 ≤ p.pair.1.length) && decide (p.pair.1.length ≤ 16) && decide (p.pair.2.length ≤ 32)) && wayB k p.pair.1 (-1) p.steps
theorem wayB_of {k pk : By} : ∀ {s : List Stp} {B : Nat}, RiseS B s → (∀ x ∈ s, bitL k x.bit = x.right ∧ bitL pk x.bit = x.right) → wayB k pk ((B : Int) - 1) s = true
  | [], _, _, _ => rfl
  | x :: s, B, h, hw => by
    obtain ⟨h1, h2, h3, h4⟩ := h
    have ih := wayB_of h4 (fun y hy => hw y (List.mem_cons_of_mem _ hy))
    have hx := hw x (List.mem_cons_self ..)
    rw [show ((x.bit + 1 : Nat) : Int) - 1 = x.bit from by omega] at ih
    unfold wayB
    rw [ih]
    simp [hx.1, hx.2, h2, h3]
    omega
theorem wayB_way {k pk : By} : ∀ {s : List Stp} {b : Int}, wayB k pk b s = true → ∀ x ∈ s, bitL k x.bit = x.right ∧ bitL pk x.bit = x.right
  | [], _, _, x, hx => by simp at hx
  | y :: s, b, h, x, hx => by
    unfold wayB at h
    simp only [Bool.and_eq_true, beq_iff_eq] at h
    rcases List.mem_cons.1 hx with rfl | hx
    · exact ⟨h.1.1.1.2, h.1.1.2⟩
    · exact wayB_way h.2 x hx
theorem prove_up {n : Nat} {l : List Pr} (h : TreeOk n l) (k : By) : upT (proveT l k) = rootT l := by
  unfold proveT upT
  by_cases e : l = []
  · subst e; rfl
  · rw [if_neg e]
    exact up_root _ l k h.keys (List.length_pos_iff.2 e) (by omega)
theorem prove_check {n : Nat} {l : List Pr} (h : TreeOk n l) (k : By) : checkP k (proveT l k) = true := by
  unfold proveT checkP
  by_cases e : l = []
  · rw [if_pos e]; rfl
  · rw [if_neg e]
    have h1 := List.length_pos_iff.2 e
    have hp := h.ok _ (steps_pair l.length l k h.keys h1)
    have hr := wayB_of (steps_rise l.length l k 0 h.keys h1 (fun p _ q _ j hj => by omega)) (steps_way l.length l k h.keys h1)
    simp only [Bool.false_eq_true, if_false]
    rw [show ((0 : Nat) : Int) - 1 = -1 from rfl] at hr
    rw [hr]
    simp [hp.1, hp.2.1, hp.2.2]
/-- What a proof that holds tells of a key. -/
def tellP (k : By) (p : Prf) : Option By := if p.empty = true ∨ p.pair.1 ≠ k then none else some p.pair.2
theorem prove_tells {n : Nat} {l : List Pr} (h : TreeOk n l) (k b : By) (hc : checkP b (proveT l k) = true) : tellP b (proveT l k) = getT l b := by
  unfold proveT checkP tellP at *
  by_cases e : l = []
  · subst e; rfl
  · rw [if_neg e] at *
    have h1 := List.length_pos_iff.2 e
    simp only [Bool.false_eq_true, if_false, Bool.and_eq_true] at hc
    have hway := wayB_way hc.2
    have hm := steps_pair l.length l k h.keys h1
    by_cases hb : (stepsN l.length l k).2.1 = b
    · rw [if_neg (by simp [hb])]
      have := mem_getT h.rise hm
      rw [hb] at this
      exact this.symm
    · rw [if_pos (.inr hb)]
      cases hg : getT l b with
      | none => rfl
      | some v =>
        exfalso
        have hmem := getT_mem hg
        have := steps_found l.length l k h.keys h1 (by omega) (b, v) hmem (fun s hs => (hway s hs).1)
        rw [this] at hb
        exact hb rfl
end Go.Proofs.Yteefnnnbbmbmcaa
