/- What a write, a forest's check, writes one behind the other tell: plain laws. No program in sight. -/
import Derived.Test.YteefnnnbbmbmcaaP11
import Derived.Test.YteefnnnbbmbmcaaT4b
namespace Go.Proofs.Yteefnnnbbmbmcaa
open Go.RowKit
/-- What is wrong with a write by itself. -/
def wrE (w : Wr) : Int := if nameN w.name.length ≠ 0 then nameN w.name.length else if w.gone = true then (if checkN w.key.length ≠ 0 then checkN w.key.length else if 0 < w.value.length then 4 else 0) else pairE (w.key, w.value)
theorem nameN_zero {n : Nat} : nameN n = 0 ↔ 1 ≤ n ∧ n ≤ 8 := by unfold nameN; split <;> simp_all
theorem checkN_zero {n : Nat} : checkN n = 0 ↔ 1 ≤ n ∧ n ≤ 16 := by unfold checkN; split <;> simp_all
theorem wrE_ok {w : Wr} : wrE w = 0 ↔ WrOk w := by
  unfold wrE
  by_cases h1 : nameN w.name.length = 0
  · rw [if_neg (by simp [h1])]
    have hn := nameN_zero.1 h1
    cases hg : w.gone with
    | true =>
      simp only [if_true]
      by_cases h2 : checkN w.key.length = 0
      · rw [if_neg (by simp [h2])]
        have hk := checkN_zero.1 h2
        by_cases h3 : 0 < w.value.length
        · rw [if_pos h3]
          refine ⟨fun h => by omega, fun h => ?_⟩
          have := h.gone hg
          rw [this] at h3; simp at h3
        · rw [if_neg h3]
          have hv : w.value = [] := List.eq_nil_of_length_eq_zero (by omega)
          exact ⟨fun _ => ⟨hn, hk.1, hk.2, by rw [hv]; simp, fun _ => hv⟩, fun _ => rfl⟩
      · rw [if_pos h2]
        exact ⟨fun h => absurd h h2, fun h => absurd (checkN_zero.2 ⟨h.key1, h.key2⟩) h2⟩
    | false =>
      simp only [Bool.false_eq_true, if_false]
      rw [pairE_ok]
      exact ⟨fun h => ⟨hn, h.1, h.2.1, h.2.2, fun h => by rw [hg] at h; cases h⟩, fun h => ⟨h.key1, h.key2, h.value⟩⟩
  · rw [if_pos h1]
    exact ⟨fun h => absurd h h1, fun h => absurd (nameN_zero.2 h.name) h1⟩
theorem writeF_ok60 {f g : Forest} (hf : ForestOk 60 f) {w : Wr} (hw : WrOk w) (h : writeF f w = some g) : ForestOk 60 g := by
  have h61 := writeF_ok hf hw h
  refine ⟨h61.len, h61.name, h61.some, fun t ht => ?_, h61.rise⟩
  have ht61 := h61.tree t ht
  refine ⟨?_, ht61.ok, ht61.rise⟩
  rcases writeF_some h with ⟨_, rfl⟩ | ⟨h1, rfl, _⟩
  · have : t ∈ f := by rw [delT_rem _ hf.rise] at ht; exact mem_remT ht
    exact (hf.tree t this).len
  · rw [putT_ins _ _ hf.rise] at ht
    rcases mem_insT ht with rfl | ht
    · show (nextT w (treeF f w.name)).length ≤ 60
      unfold writeF at h
      dsimp only at h
      by_cases h2 : w.gone = false ∧ 60 < (nextT w (treeF f w.name)).length
      · rw [if_pos h2] at h; cases h
      · have hl := (treeF_ok hf w.name)
        cases hg : w.gone with
        | false => exact Nat.le_of_not_lt fun q => h2 ⟨hg, q⟩
        | true =>
          unfold nextT
          rw [hg, if_pos rfl]
          exact (TreeOk.del hl).len
    · exact (hf.tree t ht).len
/-- Writes, one behind the other: what they tell, and the forest. -/
def applyR : Forest → List Wr → Int × Forest
  | f, [] => (0, f)
  | f, w :: ws => if wrE w ≠ 0 then (wrE w, []) else match writeF f w with
    | none => (11, [])
    | some g => applyR g ws
theorem applyR_ok : ∀ {ws : List Wr} {f : Forest}, (∀ w ∈ ws, WrOk w) → applyR f ws = match applyF f ws with | some g => (0, g) | none => (11, [])
  | [], f, _ => rfl
  | w :: ws, f, h => by
    have h0 := wrE_ok.2 (h w (by simp))
    unfold applyR applyF
    rw [if_neg (by simp [h0])]
    cases writeF f w with
    | none => rfl
    | some g => exact applyR_ok fun x hx => h x (by simp [hx])
/-- What forest.Check tells. -/
def forestAt (l : Forest) : Nat → Nat → Int
  | 0, _ => 0
  | n + 1, k => match l[k]? with
    | none => 0
    | some t => if nameN t.1.length ≠ 0 then nameN t.1.length else if t.2.length = 0 then 4 else if treeE t.2 ≠ 0 then treeE t.2 else if 0 < k ∧ 0 ≤ cmpL (l.getD (k - 1) ([], [])).1 t.1 then 3 else forestAt l n (k + 1)
def forestE (l : Forest) : Int := if 8 < l.length then 1 else forestAt l l.length 0
theorem forestAt_at {l : Forest} {k : Nat} {t : By × List Pr} (hp : l[k]? = some t) : forestAt l (l.length - k) k = if nameN t.1.length ≠ 0 then nameN t.1.length else if t.2.length = 0 then 4 else if treeE t.2 ≠ 0 then treeE t.2 else if 0 < k ∧ 0 ≤ cmpL (l.getD (k - 1) ([], [])).1 t.1 then 3 else forestAt l (l.length - (k + 1)) (k + 1) := by
  obtain ⟨hk, _⟩ := List.getElem?_eq_some_iff.1 hp
  rw [show l.length - k = (l.length - (k + 1)) + 1 from by omega]
  simp only [forestAt, hp]
theorem forestAt_end {l : Forest} {k : Nat} (hk : l.length ≤ k) : forestAt l (l.length - k) k = 0 := by rw [show l.length - k = 0 from by omega]; rfl
theorem forestE_ok {l : Forest} : forestE l = 0 ↔ ForestOk 60 l := by
  unfold forestE
  by_cases hl : 8 < l.length
  · rw [if_pos hl]
    exact ⟨fun h => by omega, fun h => by have := h.len; omega⟩
  · rw [if_neg hl]
    have key : ∀ n k, n + k = l.length → (forestAt l n k = 0 ↔ ∀ i (hi : i < l.length), k ≤ i → (NameOk l[i].1 ∧ l[i].2 ≠ [] ∧ TreeOk 60 l[i].2) ∧ (0 < i → Lt (l.getD (i - 1) ([], [])).1 l[i].1)) := by
      intro n
      induction n with
      | zero => intro k hk; simp only [forestAt]; exact ⟨fun _ i hi h => by omega, fun _ => trivial⟩
      | succ n ih =>
        intro k hk
        have hk' : k < l.length := by omega
        simp only [forestAt, List.getElem?_eq_getElem hk']
        have ihk := ih (k + 1) (by omega)
        by_cases h1 : nameN l[k].1.length = 0
        · rw [if_neg (by simp [h1])]
          by_cases h2 : l[k].2.length = 0
          · rw [if_pos h2]
            exact ⟨fun h => by omega, fun h => absurd (List.eq_nil_of_length_eq_zero h2) (h k hk' (Nat.le_refl _)).1.2.1⟩
          · rw [if_neg h2]
            by_cases h3 : treeE l[k].2 = 0
            · rw [if_neg (by simp [h3])]
              by_cases hc : 0 < k ∧ 0 ≤ cmpL (l.getD (k - 1) ([], [])).1 l[k].1
              · rw [if_pos hc]
                refine ⟨fun h => by omega, fun h => ?_⟩
                have := (h k hk' (Nat.le_refl _)).2 hc.1
                have := cmpL_lt.2 this
                omega
              · rw [if_neg hc, ihk]
                refine ⟨fun h i hi hki => ?_, fun h i hi hki => h i hi (by omega)⟩
                by_cases e : i = k
                · subst e
                  refine ⟨⟨nameN_zero.1 h1, fun e => h2 (by rw [e]; rfl), treeE_ok.1 h3⟩, fun h0 => cmpL_lt.1 ?_⟩
                  have : ¬ 0 ≤ cmpL (l.getD (i - 1) ([], [])).1 l[i].1 := fun h => hc ⟨h0, h⟩
                  omega
                · exact h i hi (by omega)
            · rw [if_pos h3]
              exact ⟨fun h => absurd h h3, fun h => absurd (treeE_ok.2 (h k hk' (Nat.le_refl _)).1.2.2) h3⟩
        · rw [if_pos h1]
          exact ⟨fun h => absurd h h1, fun h => absurd (nameN_zero.2 (h k hk' (Nat.le_refl _)).1.1) h1⟩
    rw [key l.length 0 (by omega)]
    constructor
    · intro h
      have hm : ∀ t ∈ l, NameOk t.1 ∧ t.2 ≠ [] ∧ TreeOk 60 t.2 := fun t ht => by
        obtain ⟨i, hi, rfl⟩ := List.mem_iff_getElem.1 ht
        exact (h i hi (by omega)).1
      refine ⟨by omega, fun t ht => (hm t ht).1, fun t ht => (hm t ht).2.1, fun t ht => (hm t ht).2.2, ?_⟩
      have step : ∀ j i (hi : i < l.length) (hj : j < l.length), i < j → Lt l[i].1 l[j].1 := by
        intro j
        induction j with
        | zero => intro i _ _ h; omega
        | succ j ih =>
          intro i hi hj hij
          have h1 := (h (j + 1) hj (by omega)).2 (by omega)
          simp only [Nat.add_sub_cancel, List.getD, List.getElem?_eq_getElem (show j < l.length by omega), Option.getD_some] at h1
          by_cases e : i = j
          · subst e; exact h1
          · exact less_trans _ _ _ (ih i hi (by omega) (by omega)) h1
      exact List.pairwise_iff_getElem.2 fun i j hi hj hij => step j i hi hj hij
    · intro h i hi _
      have hmem := List.getElem_mem hi
      refine ⟨⟨h.name _ hmem, h.some _ hmem, h.tree _ hmem⟩, fun h0 => ?_⟩
      simp only [List.getD, List.getElem?_eq_getElem (show i - 1 < l.length by omega), Option.getD_some]
      exact List.pairwise_iff_getElem.1 h.rise (i - 1) i (by omega) hi (by omega)
end Go.Proofs.Yteefnnnbbmbmcaa
