/- Trees as sorted lists of pairs: plain laws. No program in sight. -/
import Derived.Test.YteefnnnbbmbmcaaM1
namespace Go.Proofs.Yteefnnnbbmbmcaa
open Go.RowKit

abbrev By := List UInt8
theorem less_trans : ∀ a b c : By, Op.bytesLess a b = true → Op.bytesLess b c = true → Op.bytesLess a c = true
  | _, _, [], _, h => by cases ‹By› <;> cases h
  | [], _, _ :: _, _, _ => by simp [Op.bytesLess]
  | _ :: _, [], _ :: _, h, _ => by cases h
  | x :: a, y :: b, z :: c, h, k => by
    simp only [Op.bytesLess, Bool.or_eq_true, decide_eq_true_eq, Bool.and_eq_true, beq_iff_eq] at *
    rcases h with h | ⟨rfl, h⟩
    · rcases k with k | ⟨rfl, k⟩
      · left
        have h1 := UInt8.lt_iff_toNat_lt.1 h; have h2 := UInt8.lt_iff_toNat_lt.1 k
        exact UInt8.lt_iff_toNat_lt.2 (by omega)
      · exact .inl h
    · rcases k with k | ⟨rfl, k⟩
      · exact .inl k
      · exact .inr ⟨rfl, less_trans a b c h k⟩
theorem less_total : ∀ a b : By, Op.bytesLess a b = false → Op.bytesLess b a = false → a = b
  | [], [], _, _ => rfl
  | [], _ :: _, h, _ => by simp [Op.bytesLess] at h
  | _ :: _, [], _, h => by simp [Op.bytesLess] at h
  | x :: a, y :: b, h, k => by
    simp only [Op.bytesLess, Bool.or_eq_false_iff, decide_eq_false_iff_not, Bool.and_eq_false_iff, beq_eq_false_iff_ne] at h k
    have hxy : x = y := by
      apply UInt8.toNat_inj.1
      have h1 : ¬ x.toNat < y.toNat := fun q => h.1 (UInt8.lt_iff_toNat_lt.2 q)
      have h2 : ¬ y.toNat < x.toNat := fun q => k.1 (UInt8.lt_iff_toNat_lt.2 q)
      omega
    subst hxy
    rw [less_total a b (h.2.resolve_left (fun q => q rfl)) (k.2.resolve_left (fun q => q rfl))]
theorem less_ne {a b : By} (h : Op.bytesLess a b = true) : a ≠ b := by rintro rfl; rw [less_irrefl] at h; cases h
abbrev Lt (a b : By) : Prop := Op.bytesLess a b = true
/-- bytes.Compare -/
def cmpL (a b : By) : Int := if Op.bytesLess a b then -1 else if a = b then 0 else 1
theorem cmpL_lt {a b : By} : cmpL a b < 0 ↔ Lt a b := by
  unfold cmpL Lt; cases h : Op.bytesLess a b <;> simp; split <;> omega
theorem cmpL_eq {a b : By} : cmpL a b = 0 ↔ a = b := by
  unfold cmpL
  cases h : Op.bytesLess a b with
  | true => simp; exact less_ne h
  | false => simp only [Bool.false_eq_true, if_false]; split <;> simp_all
theorem cmpL_gt {a b : By} : 0 < cmpL a b ↔ Lt b a := by
  unfold cmpL Lt
  cases h : Op.bytesLess a b with
  | true => simp; exact less_asymm a b h
  | false =>
    simp only [Bool.false_eq_true, if_false]
    split
    · rename_i e; subst e; simp [less_irrefl]
    · rename_i e
      cases k : Op.bytesLess b a with
      | true => simp
      | false => exact absurd (less_total a b h k) e
theorem cmpL_bd (a b : By) : -1 ≤ cmpL a b ∧ cmpL a b ≤ 1 := by unfold cmpL; split <;> (try split) <;> omega

/-! Lists sorted by a key. -/
section
variable {β : Type} (f : β → By)
abbrev RiseBy (l : List β) : Prop := l.Pairwise fun p q => Lt (f p) (f q)
def posBy (l : List β) (k : By) : Nat := (l.takeWhile fun p => Op.bytesLess (f p) k).length
def hasBy (l : List β) (k : By) : Bool := l.any fun p => f p == k
theorem posBy_le (l : List β) (k : By) : posBy f l k ≤ l.length := by
  unfold posBy; exact (List.takeWhile_prefix _).length_le
variable {f}
theorem posBy_lt {l : List β} {k : By} {i : Nat} (hi : i < posBy f l k) (h : i < l.length) : Lt (f l[i]) k := by
  unfold posBy at hi
  have e : (l.takeWhile fun p => Op.bytesLess (f p) k)[i] = l[i] := (List.takeWhile_prefix _).getElem hi
  have hp := List.all_eq_true.1 (List.all_takeWhile (p := fun p => Op.bytesLess (f p) k) (l := l)) _ (List.getElem_mem hi)
  rw [e] at hp
  exact hp
theorem posBy_cons (p : β) (l : List β) (k : By) : posBy f (p :: l) k = if Op.bytesLess (f p) k then posBy f l k + 1 else 0 := by
  unfold posBy
  rw [List.takeWhile_cons]
  split <;> simp
theorem posBy_ge : ∀ {l : List β} {k : By}, RiseBy f l → ∀ {i : Nat} (_ : posBy f l k ≤ i) (h : i < l.length), ¬ Lt (f l[i]) k
  | [], _, _, i, _, h => by simp at h
  | p :: l, k, hr, i, hi, h => by
    rw [posBy_cons] at hi
    rw [RiseBy, List.pairwise_cons] at hr
    split at hi
    · rename_i hlt
      cases i with
      | zero => omega
      | succ i => exact posBy_ge hr.2 (by omega) (by simpa using h)
    · rename_i hlt
      cases i with
      | zero => simpa using hlt
      | succ i =>
        simp only [List.getElem_cons_succ]
        intro h2
        have := hr.1 (l[i]'(by simpa using h)) (List.getElem_mem _)
        exact hlt (less_trans _ _ _ this h2)
/-- The place that a search by halves finds: what stands ahead is less, what is behind is not. -/
theorem posBy_unique {l : List β} {k : By} {n : Nat} (hn : n ≤ l.length) (h1 : ∀ (i : Nat) (h : i < l.length), i < n → Lt (f l[i]) k) (h2 : ∀ (i : Nat) (h : i < l.length), n ≤ i → ¬ Lt (f l[i]) k) : posBy f l k = n := by
  induction l generalizing n with
  | nil => simp at hn; subst hn; rfl
  | cons p l ih =>
    rw [posBy_cons]
    cases n with
    | zero =>
      have := h2 0 (by simp) (by omega)
      rw [if_neg (by simpa using this)]
    | succ n =>
      rw [if_pos (show Lt (f p) k from h1 0 (by simp) (by omega))]
      rw [ih (n := n) (by simpa using hn) (fun i h hi => by have := h1 (i + 1) (by simpa using h) (by omega); simpa using this) (fun i h hi => by have := h2 (i + 1) (by simpa using h) (by omega); simpa using this)]
theorem hasBy_iff {l : List β} {k : By} : hasBy f l k = true ↔ ∃ p ∈ l, f p = k := by simp [hasBy]
theorem hasBy_at {l : List β} {k : By} (hr : RiseBy f l) : hasBy f l k = true ↔ ∃ h : posBy f l k < l.length, f (l[posBy f l k]) = k := by
  rw [hasBy_iff]
  constructor
  · rintro ⟨p, hp, hk⟩
    obtain ⟨i, hi, rfl⟩ := List.mem_iff_getElem.1 hp
    have e : posBy f l k = i := posBy_unique (Nat.le_of_lt hi) (fun j hj hji => by
      rw [← hk]; exact List.pairwise_iff_getElem.1 hr j i hj hi hji) (fun j hj hij => by
      rw [← hk]
      intro h
      rcases Nat.lt_or_eq_of_le hij with h1 | h1
      · exact absurd (less_trans _ _ _ h (List.pairwise_iff_getElem.1 hr i j hi hj h1)) (by rw [less_irrefl]; simp)
      · subst h1; rw [Lt, less_irrefl] at h; cases h)
    subst e
    exact ⟨hi, hk⟩
  · rintro ⟨h, hk⟩
    exact ⟨_, List.getElem_mem h, hk⟩
/-- A search by halves: what it says at the place. -/
theorem hasBy_pos {l : List β} {k : By} (hr : RiseBy f l) : hasBy f l k = (decide (posBy f l k < l.length) && (match l[posBy f l k]? with | some p => decide (cmpL (f p) k = 0) | none => false)) := by
  rw [Bool.eq_iff_iff, hasBy_at hr]
  constructor
  · rintro ⟨h, hk⟩
    simp [h, cmpL_eq, hk]
  · intro h
    simp only [Bool.and_eq_true, decide_eq_true_eq] at h
    refine ⟨h.1, ?_⟩
    have h2 := h.2
    rw [List.getElem?_eq_getElem h.1] at h2
    simpa [cmpL_eq] using h2
end
section
variable {α : Type}
/-- A pair, a tree. -/
abbrev Rise (l : List (By × α)) : Prop := RiseBy (·.1) l
abbrev posT (l : List (By × α)) (k : By) : Nat := posBy (·.1) l k
abbrev hasT (l : List (By × α)) (k : By) : Bool := hasBy (·.1) l k
def getT (l : List (By × α)) (k : By) : Option α := (l.find? fun p => p.1 == k).map (·.2)
def putT (l : List (By × α)) (k : By) (v : α) : List (By × α) := if hasT l k then l.set (posT l k) (k, v) else l.take (posT l k) ++ (k, v) :: l.drop (posT l k)
def delT (l : List (By × α)) (k : By) : List (By × α) := if hasT l k then l.take (posT l k) ++ l.drop (posT l k + 1) else l
def rangeT (l : List (By × α)) (a b : By) : List (By × α) := l.filter fun p => !Op.bytesLess p.1 a && !Op.bytesLess b p.1
end
abbrev Pr := By × By
def PairOk (p : Pr) : Prop := 1 ≤ p.1.length ∧ p.1.length ≤ 16 ∧ p.2.length ≤ 32
structure TreeOk (n : Nat) (l : List Pr) : Prop where
  len : l.length ≤ n
  ok : ∀ p ∈ l, PairOk p
  rise : Rise l
section
variable {α : Type}
def insT (k : By) (v : α) : List (By × α) → List (By × α)
  | [] => [(k, v)]
  | p :: l => if Op.bytesLess p.1 k then p :: insT k v l else if p.1 = k then (k, v) :: l else (k, v) :: p :: l
def remT (k : By) : List (By × α) → List (By × α)
  | [] => []
  | p :: l => if Op.bytesLess p.1 k then p :: remT k l else if p.1 = k then l else p :: l
theorem hasT_cons_lt {p : By × α} {l : List (By × α)} {k : By} (h : Lt p.1 k) : hasT (p :: l) k = hasT l k := by
  have := less_ne h
  simp [hasT, hasBy, this]
theorem hasT_cons_gt {p : By × α} {l : List (By × α)} {k : By} (hr : Rise (p :: l)) (h : ¬ Lt p.1 k) (hne : p.1 ≠ k) : hasT (p :: l) k = false := by
  cases hh : hasT (p :: l) k with
  | false => rfl
  | true =>
    obtain ⟨h1, h2⟩ := (hasBy_at hr).1 hh
    have h0 : posBy (·.1) (p :: l) k = 0 := by rw [posBy_cons, if_neg h]
    simp only [h0, List.getElem_cons_zero] at h2
    exact absurd h2 hne
theorem putT_ins (k : By) (v : α) : ∀ {l : List (By × α)}, Rise l → putT l k v = insT k v l
  | [], _ => by simp [putT, hasT, hasBy, insT]
  | p :: l, hr => by
    have hr' := (List.pairwise_cons.1 hr).2
    unfold insT
    split
    · rename_i h
      rw [← putT_ins k v hr']
      have hp : posT (p :: l) k = posT l k + 1 := by rw [posT, posBy_cons, if_pos h]
      unfold putT
      rw [hasT_cons_lt h, hp]
      split <;> simp
    · rename_i h
      have hp : posT (p :: l) k = 0 := by rw [posT, posBy_cons, if_neg h]
      split
      · rename_i he
        have : hasT (p :: l) k = true := hasBy_iff.2 ⟨p, by simp, he⟩
        unfold putT
        rw [if_pos this, hp]
        simp
      · rename_i he
        unfold putT
        rw [hasT_cons_gt hr h he, hp]
        simp
theorem delT_rem (k : By) : ∀ {l : List (By × α)}, Rise l → delT l k = remT k l
  | [], _ => by simp [delT, hasT, hasBy, remT]
  | p :: l, hr => by
    have hr' := (List.pairwise_cons.1 hr).2
    unfold remT
    split
    · rename_i h
      rw [← delT_rem k hr']
      have hp : posT (p :: l) k = posT l k + 1 := by rw [posT, posBy_cons, if_pos h]
      unfold delT
      rw [hasT_cons_lt h, hp]
      split <;> simp
    · rename_i h
      have hp : posT (p :: l) k = 0 := by rw [posT, posBy_cons, if_neg h]
      split
      · rename_i he
        have : hasT (p :: l) k = true := hasBy_iff.2 ⟨p, by simp, he⟩
        unfold delT
        rw [if_pos this, hp]
        simp
      · rename_i he
        unfold delT
        rw [hasT_cons_gt hr h he]
        simp
theorem mem_insT {k : By} {v : α} {q : By × α} : ∀ {l : List (By × α)}, q ∈ insT k v l → q = (k, v) ∨ q ∈ l
  | [], h => by simp [insT] at h; exact .inl h
  | p :: l, h => by
    unfold insT at h
    split at h
    · rcases List.mem_cons.1 h with rfl | h
      · exact .inr (by simp)
      · rcases mem_insT h with h | h
        · exact .inl h
        · exact .inr (List.mem_cons_of_mem _ h)
    · split at h <;> simp only [List.mem_cons] at h ⊢ <;> rcases h with h | h <;> simp_all
theorem mem_remT {k : By} {q : By × α} : ∀ {l : List (By × α)}, q ∈ remT k l → q ∈ l
  | [], h => by simp [remT] at h
  | p :: l, h => by
    unfold remT at h
    split at h
    · rcases List.mem_cons.1 h with rfl | h
      · simp
      · exact List.mem_cons_of_mem _ (mem_remT h)
    · split at h
      · exact List.mem_cons_of_mem _ h
      · exact h
theorem rise_insT {k : By} {v : α} : ∀ {l : List (By × α)}, Rise l → Rise (insT k v l)
  | [], _ => by simp [insT, Rise, RiseBy]
  | p :: l, hr => by
    obtain ⟨h1, h2⟩ := List.pairwise_cons.1 hr
    unfold insT
    split
    · rename_i h
      refine List.pairwise_cons.2 ⟨fun q hq => ?_, rise_insT h2⟩
      rcases mem_insT hq with rfl | hq
      · exact h
      · exact h1 q hq
    · rename_i h
      split
      · rename_i he
        refine List.pairwise_cons.2 ⟨fun q hq => ?_, h2⟩
        have : Lt p.1 q.1 := h1 q hq
        rw [he] at this
        exact this
      · rename_i he
        have hk : Lt k p.1 := by
          cases hx : Op.bytesLess k p.1 with
          | true => exact hx
          | false => exact absurd (less_total _ _ (by simpa using h) hx) he
        refine List.pairwise_cons.2 ⟨fun q hq => ?_, hr⟩
        rcases List.mem_cons.1 hq with rfl | hq
        · exact hk
        · exact less_trans _ _ _ hk (h1 q hq)
theorem rise_remT {k : By} : ∀ {l : List (By × α)}, Rise l → Rise (remT k l)
  | [], _ => by simp [remT, Rise, RiseBy]
  | p :: l, hr => by
    obtain ⟨h1, h2⟩ := List.pairwise_cons.1 hr
    unfold remT
    split
    · exact List.pairwise_cons.2 ⟨fun q hq => h1 q (mem_remT hq), rise_remT h2⟩
    · split
      · exact h2
      · exact hr
theorem getT_cons (p : By × α) (l : List (By × α)) (k : By) : getT (p :: l) k = if p.1 = k then some p.2 else getT l k := by
  unfold getT
  rw [List.find?_cons]
  by_cases h : p.1 = k
  · simp [h]
  · simp [h, beq_eq_false_iff_ne.2 h]
theorem getT_none {l : List (By × α)} {k : By} (h : ∀ p ∈ l, p.1 ≠ k) : getT l k = none := by
  unfold getT
  rw [List.find?_eq_none.2 (by simpa using h)]
  rfl
theorem getT_tail {p : By × α} {l : List (By × α)} {k : By} (hr : Rise (p :: l)) (h : ¬ Lt p.1 k) : getT l k = none := by
  refine getT_none fun q hq e => h ?_
  rw [← e]
  exact (List.pairwise_cons.1 hr).1 q hq
theorem getT_insT {k : By} {v : α} (j : By) : ∀ {l : List (By × α)}, Rise l → getT (insT k v l) j = if k = j then some v else getT l j
  | [], _ => by simp [insT, getT_cons]
  | p :: l, hr => by
    have hr' := (List.pairwise_cons.1 hr).2
    unfold insT
    split
    · rename_i h
      rw [getT_cons, getT_insT j hr', getT_cons]
      by_cases e : p.1 = j
      · have : k ≠ j := by rintro rfl; exact less_ne h e
        simp [e, this]
      · simp [e]
    · split
      · rename_i he
        rw [getT_cons, getT_cons, he]
        by_cases e : k = j <;> simp [e]
      · rw [getT_cons]
theorem getT_remT {k : By} (j : By) : ∀ {l : List (By × α)}, Rise l → getT (remT k l) j = if k = j then none else getT l j
  | [], _ => by simp [remT, getT]
  | p :: l, hr => by
    have hr' := (List.pairwise_cons.1 hr).2
    unfold remT
    split
    · rename_i h
      rw [getT_cons, getT_remT j hr', getT_cons]
      by_cases e : p.1 = j
      · have : k ≠ j := by rintro rfl; exact less_ne h e
        simp [e, this]
      · simp [e]
    · rename_i h
      split
      · rename_i he
        rw [getT_cons, he]
        by_cases e : k = j
        · subst e
          simp [getT_tail hr h]
        · simp [e]
      · rename_i he
        by_cases e : k = j
        · subst e
          rw [if_pos rfl, getT_cons, if_neg he, getT_tail hr h]
        · simp [e]
theorem getT_putT {l : List (By × α)} (hr : Rise l) (k : By) (v : α) (j : By) : getT (putT l k v) j = if k = j then some v else getT l j := by rw [putT_ins k v hr, getT_insT j hr]
theorem getT_delT {l : List (By × α)} (hr : Rise l) (k j : By) : getT (delT l k) j = if k = j then none else getT l j := by rw [delT_rem k hr, getT_remT j hr]
theorem rise_putT {l : List (By × α)} (hr : Rise l) (k : By) (v : α) : Rise (putT l k v) := by rw [putT_ins k v hr]; exact rise_insT hr
theorem rise_delT {l : List (By × α)} (hr : Rise l) (k : By) : Rise (delT l k) := by rw [delT_rem k hr]; exact rise_remT hr
theorem hasT_getT {l : List (By × α)} {k : By} : hasT l k = (getT l k).isSome := by
  rw [Bool.eq_iff_iff, hasT, hasBy_iff, getT]
  simp [List.find?_isSome]
theorem len_putT (l : List (By × α)) (k : By) (v : α) : (putT l k v).length = if hasT l k then l.length else l.length + 1 := by
  unfold putT
  have := posBy_le (·.1) l k
  split
  · simp
  · simp only [List.length_append, List.length_take, List.length_cons, List.length_drop, posT]; omega
theorem len_delT {l : List (By × α)} (hr : Rise l) (k : By) : (delT l k).length = if hasT l k then l.length - 1 else l.length := by
  unfold delT
  split
  · rename_i h
    obtain ⟨h1, _⟩ := (hasBy_at hr).1 h
    simp only [List.length_append, List.length_take, List.length_drop, posT] at *; omega
  · rfl
theorem getT_mem {l : List (By × α)} {k : By} {v : α} (h : getT l k = some v) : (k, v) ∈ l := by
  unfold getT at h
  obtain ⟨p, hp, rfl⟩ := Option.map_eq_some_iff.1 h
  have h1 := List.find?_some hp
  have h2 := List.mem_of_find?_eq_some hp
  have : p.1 = k := by simpa using h1
  rw [← this]; exact h2
theorem mem_getT {l : List (By × α)} (hr : Rise l) {p : By × α} (h : p ∈ l) : getT l p.1 = some p.2 := by
  induction l with
  | nil => simp at h
  | cons q l ih =>
    obtain ⟨h1, h2⟩ := List.pairwise_cons.1 hr
    rw [getT_cons]
    rcases List.mem_cons.1 h with rfl | h
    · simp
    · rw [if_neg (less_ne (h1 p h)), ih h2 h]
/-- A tree is what it tells. -/
theorem tree_ext : ∀ {l m : List (By × α)}, Rise l → Rise m → (∀ k, getT l k = getT m k) → l = m
  | [], [], _, _, _ => rfl
  | [], q :: m, _, _, h => by have := h q.1; rw [getT_cons] at this; simp [getT] at this
  | p :: l, [], _, _, h => by have := h p.1; rw [getT_cons] at this; simp [getT] at this
  | p :: l, q :: m, hl, hm, h => by
    have e1 := h p.1
    have e2 := h q.1
    have hp : p.1 = q.1 := by
      cases a : Op.bytesLess p.1 q.1 with
      | true =>
        rw [getT_cons, getT_cons, if_pos rfl, if_neg (fun e => less_ne a e.symm), getT_tail hm (fun k => by have := less_asymm _ _ a; rw [Lt, this] at k; cases k)] at e1
        cases e1
      | false =>
        cases b : Op.bytesLess q.1 p.1 with
        | true =>
          rw [getT_cons, getT_cons, if_pos rfl, if_neg (fun e => less_ne b e.symm), getT_tail hl (fun k => by have := less_asymm _ _ b; rw [Lt, this] at k; cases k)] at e2
          cases e2
        | false => exact less_total _ _ a b
    have hv : p.2 = q.2 := by
      rw [getT_cons, getT_cons, if_pos rfl, if_pos hp.symm] at e1
      simpa using e1
    have hpq : p = q := Prod.ext hp hv
    subst hpq
    rw [tree_ext (List.pairwise_cons.1 hl).2 (List.pairwise_cons.1 hm).2 fun k => ?_]
    have e3 := h k
    rw [getT_cons, getT_cons] at e3
    by_cases e : p.1 = k
    · subst e
      rw [getT_tail hl (by rw [Lt, less_irrefl]; simp), getT_tail hm (by rw [Lt, less_irrefl]; simp)]
    · simpa [e] using e3
end
theorem TreeOk.put {n m : Nat} {l : List Pr} {k v : By} (h : TreeOk n l) (hp : PairOk (k, v)) (hm : (putT l k v).length ≤ m) : TreeOk m (putT l k v) := by
  refine ⟨hm, fun p hp' => ?_, rise_putT h.rise k v⟩
  rw [putT_ins k v h.rise] at hp'
  rcases mem_insT hp' with rfl | h'
  · exact hp
  · exact h.ok p h'
theorem TreeOk.del {n : Nat} {l : List Pr} {k : By} (h : TreeOk n l) : TreeOk n (delT l k) := by
  refine ⟨?_, fun p hp' => ?_, rise_delT h.rise k⟩
  · rw [len_delT h.rise]; have := h.len; split <;> omega
  · rw [delT_rem k h.rise] at hp'; exact h.ok p (mem_remT hp')
theorem TreeOk.mono {n m : Nat} {l : List Pr} (h : TreeOk n l) (hm : n ≤ m) : TreeOk m l := ⟨Nat.le_trans h.len hm, h.ok, h.rise⟩
theorem TreeOk.nil (n : Nat) : TreeOk n [] := ⟨Nat.zero_le _, by simp, by simp [Rise, RiseBy]⟩
section
variable {α : Type}
theorem putT_comm {l : List (By × α)} (hr : Rise l) {k j : By} {v u : α} (h : k ≠ j) : putT (putT l k v) j u = putT (putT l j u) k v := by
  refine tree_ext (rise_putT (rise_putT hr _ _) _ _) (rise_putT (rise_putT hr _ _) _ _) fun i => ?_
  rw [getT_putT (rise_putT hr _ _), getT_putT hr, getT_putT (rise_putT hr _ _), getT_putT hr]
  by_cases e1 : j = i
  · subst e1; simp [h]
  · simp [e1]
theorem putT_again {l : List (By × α)} (hr : Rise l) (k : By) (v u : α) : putT (putT l k v) k u = putT l k u := by
  refine tree_ext (rise_putT (rise_putT hr _ _) _ _) (rise_putT hr _ _) fun i => ?_
  rw [getT_putT (rise_putT hr _ _), getT_putT hr, getT_putT hr]
  by_cases e1 : k = i <;> simp [e1]
theorem delT_putT {l : List (By × α)} (hr : Rise l) (k : By) (v : α) : delT (putT l k v) k = delT l k := by
  refine tree_ext (rise_delT (rise_putT hr _ _) _) (rise_delT hr _) fun i => ?_
  rw [getT_delT (rise_putT hr _ _), getT_putT hr, getT_delT hr]
  by_cases e1 : k = i <;> simp [e1]
theorem delT_none {l : List (By × α)} (hr : Rise l) {k : By} (h : getT l k = none) : delT l k = l := by
  refine tree_ext (rise_delT hr _) hr fun i => ?_
  rw [getT_delT hr]
  by_cases e1 : k = i
  · subst e1; simp [h]
  · simp [e1]
/-- Where a search by halves goes: the pairs of a range stand one behind the other. -/
theorem rangeT_slice {l : List (By × α)} (hr : Rise l) (a b : By) : rangeT l a b = (l.take (if hasT l b then posT l b + 1 else posT l b)).drop (posT l a) := by
  have key : ∀ (i : Nat) (h : i < l.length), (i < (if hasT l b then posT l b + 1 else posT l b)) ↔ Op.bytesLess b l[i].1 = false := by
    intro i h
    by_cases hh : hasT l b = true
    · rw [if_pos hh]
      obtain ⟨h1, h2⟩ := (hasBy_at hr).1 hh
      constructor
      · intro hi
        rcases Nat.lt_or_eq_of_le (Nat.le_of_lt_succ hi) with h3 | h3
        · exact less_asymm _ _ (posBy_lt (f := (·.1)) h3 h)
        · subst h3
          rw [show l[posBy (·.1) l b].1 = b from h2, less_irrefl]
      · intro hb
        apply Nat.lt_succ_of_le
        rcases Nat.lt_or_ge (posT l b) i with h3 | h3
        · have : Lt l[posBy (·.1) l b].1 l[i].1 := List.pairwise_iff_getElem.1 hr _ _ h1 h h3
          rw [show l[posBy (·.1) l b].1 = b from h2] at this
          rw [Lt, hb] at this; cases this
        · exact h3
    · rw [if_neg hh]
      constructor
      · intro hi; exact less_asymm _ _ (posBy_lt (f := (·.1)) hi h)
      · intro hb
        rcases Nat.lt_or_ge i (posT l b) with h3 | h3
        · exact h3
        · have h4 := posBy_ge hr h3 h
          have := less_total _ _ (by simpa using h4) hb
          exact absurd (hasBy_iff.2 ⟨l[i], List.getElem_mem _, this⟩) hh
  have key2 : ∀ (i : Nat) (h : i < l.length), posT l a ≤ i ↔ Op.bytesLess l[i].1 a = false := by
    intro i h
    constructor
    · intro hi; have := posBy_ge hr hi h; simpa using this
    · intro hb
      rcases Nat.lt_or_ge i (posT l a) with h3 | h3
      · have := posBy_lt (f := (·.1)) h3 h
        rw [Lt, hb] at this; cases this
      · exact h3
  have hle : (if hasT l b then posT l b + 1 else posT l b) ≤ l.length := by
    split
    · rename_i hh
      obtain ⟨h1, _⟩ := (hasBy_at hr).1 hh
      exact h1
    · exact posBy_le _ _ _
  generalize (if hasT l b then posT l b + 1 else posT l b) = n at *
  generalize posT l a = m at *
  clear hr
  unfold rangeT
  induction l generalizing n m with
  | nil => simp
  | cons p l ih =>
    rw [List.filter_cons]
    have k1 := key 0 (by simp)
    have k2 := key2 0 (by simp)
    simp only [List.getElem_cons_zero] at k1 k2
    have key' : ∀ (n' : Nat), n = n' + 1 → ∀ (i : Nat) (h : i < l.length), i < n' ↔ Op.bytesLess b l[i].1 = false := by
      rintro n' rfl i h
      have := key (i + 1) (by simpa using h)
      simpa using this
    have key2' : ∀ (i : Nat) (h : i < l.length), m - 1 ≤ i ↔ Op.bytesLess l[i].1 a = false := by
      intro i h
      have := key2 (i + 1) (by simpa using h)
      simp only [List.getElem_cons_succ] at this
      rw [← this]; omega
    cases n with
    | zero =>
      have hz : ∀ (i : Nat) (h : i < l.length), i < 0 ↔ Op.bytesLess b l[i].1 = false := by
        intro i h
        have := key (i + 1) (by simpa using h)
        simp only [List.getElem_cons_succ] at this
        rw [← this]; omega
      have := ih 0 hz (by omega) (m - 1) key2'
      simp only [List.take_zero, List.drop_nil] at this ⊢
      have hb : Op.bytesLess b p.1 = true := by
        cases hx : Op.bytesLess b p.1 with
        | true => rfl
        | false => have := k1.2 hx; omega
      simp only [hb, Bool.not_true, Bool.and_false, Bool.false_eq_true, if_false]
      exact this
    | succ n' =>
      have := ih n' (key' n' rfl) (by simpa using hle) (m - 1) key2'
      have hb := k1.1 (by omega)
      cases m with
      | zero =>
        have ha := k2.1 (by omega)
        simp only [Nat.zero_sub, List.drop_zero] at this
        simp [ha, hb, this]
      | succ m' =>
        have ha : Op.bytesLess p.1 a = true := by
          cases hx : Op.bytesLess p.1 a with
          | true => rfl
          | false => have := k2.2 hx; omega
        simp only [Nat.add_sub_cancel] at this
        simp [ha, this]
end
end Go.Proofs.Yteefnnnbbmbmcaa
