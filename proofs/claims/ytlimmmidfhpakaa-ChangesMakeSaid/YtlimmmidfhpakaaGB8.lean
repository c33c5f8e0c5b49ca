/- Rules, plain laws and walks: P32 P33 P34 CM SO CF -/
import Derived.Test.YtlimmmidfhpakaaGB7
import Derived.Test.YtlimmmidfhpakaaGB3
import Derived.LoopN
import Derived.StillTail
import Derived.Sort.Grow
import Derived.Shelf.SlSortCmp.WholeK
namespace Go.Proofs.Ytlimmmidfhpakaa
open Go.RowKit
set_option linter.unusedVariables false
set_option linter.unusedSimpArgs false
/-- All that a forest has another one has, too: so it is no greater. -/
theorem sub_ok {m n : Nat} {x b : Forest} (hx : ForestOk m x) (hb : ForestOk n b) (h : ∀ k j, (getF x k j).isSome = true → (getF b k j).isSome = true) : ForestOk n x ∧ x.length ≤ b.length ∧ ∀ k, treeF x k ≠ [] → treeF b k ≠ [] := by
  have ht : ∀ k, treeF x k ≠ [] → treeF b k ≠ [] := by
    intro k hk e
    cases ht : treeF x k with
    | nil => exact hk ht
    | cons p l =>
      have hr := (treeF_ok hx k).rise
      have : getF x k p.1 = some p.2 := by unfold getF; rw [mem_getT hr (by rw [ht]; exact List.mem_cons_self ..)]
      have := h k p.1 (by rw [this]; rfl)
      unfold getF at this
      rw [e] at this
      simp [getT_nil] at this
  have hlen : ∀ k, (treeF x k).length ≤ (treeF b k).length := by
    intro k
    have hn : ((treeF x k).map (·.1)).Nodup := by
      rw [List.nodup_iff_pairwise_ne, List.pairwise_map]
      exact (treeF_ok hx k).rise.imp fun hlt => less_ne hlt
    have := nodup_le ((treeF x k).map (·.1)) ((treeF b k).map (·.1)) hn fun j hj => by
      rw [getT_key] at hj ⊢
      exact h k j hj
    simpa using this
  refine ⟨⟨hx.len, hx.name, hx.some, fun t ht' => ?_, hx.rise⟩, ?_, ht⟩
  · have e : treeF x t.1 = t.2 := by unfold treeF; rw [mem_getT hx.rise ht']; rfl
    have h1 := hlen t.1
    rw [e] at h1
    exact ⟨Nat.le_trans h1 (treeF_ok hb t.1).len, (hx.tree t ht').ok, (hx.tree t ht').rise⟩
  · have hn : (x.map (·.1)).Nodup := by
      rw [List.nodup_iff_pairwise_ne, List.pairwise_map]
      exact hx.rise.imp fun hlt => less_ne hlt
    have := nodup_le (x.map (·.1)) (b.map (·.1)) hn fun k hk => by
      obtain ⟨t, ht', rfl⟩ := List.mem_map.1 hk
      have e : treeF x t.1 = t.2 := by unfold treeF; rw [mem_getT hx.rise ht']; rfl
      have h1 := ht t.1 (by rw [e]; exact hx.some t ht')
      unfold treeF at h1
      cases hg : getT b t.1 with
      | none => rw [hg] at h1; exact absurd rfl h1
      | some l => exact List.mem_map.2 ⟨_, getT_mem hg, rfl⟩
    simpa using this
/-- A deletion has always room. -/
theorem del_some {m : Nat} {x : Forest} (hx : ForestOk m x) (hm : m < 60) {w : Wr} (hw : WrOk w) (hg : w.gone = true) : ∃ g, writeF x w = some g := by
  cases e : writeF x w with
  | some g => exact ⟨g, rfl⟩
  | none => have := (writeF_none hx hw hm e).2.2; rw [hg] at this; cases this
/-- A put into what another forest has has room. -/
theorem put_some {m n : Nat} {x b : Forest} (hx : ForestOk m x) (hb : ForestOk n b) (hn : n < 60) (h : ∀ k j, (getF x k j).isSome = true → (getF b k j).isSome = true) {w : Wr} (hw : WrOk w) (hbw : (getF b w.name w.key).isSome = true) : ∃ g, writeF x w = some g := by
  obtain ⟨h1, h2, h3⟩ := sub_ok hx hb h
  cases e : writeF x w with
  | some g => exact ⟨g, rfl⟩
  | none =>
    obtain ⟨q1, q2, _⟩ := writeF_none h1 hw hn e
    exfalso
    have hn' : (w.name :: x.map (·.1)).Nodup := by
      rw [List.nodup_cons]
      refine ⟨fun hm => ?_, ?_⟩
      · obtain ⟨t, ht, he⟩ := List.mem_map.1 hm
        have : hasT x w.name = true := hasBy_iff.2 ⟨t, ht, he⟩
        rw [q2] at this; cases this
      · rw [List.nodup_iff_pairwise_ne, List.pairwise_map]
        exact hx.rise.imp fun hlt => less_ne hlt
    have hmem : ∀ k, treeF b k ≠ [] → k ∈ b.map (·.1) := by
      intro k hk
      unfold treeF at hk
      cases hg : getT b k with
      | none => rw [hg] at hk; exact absurd rfl hk
      | some l => exact List.mem_map.2 ⟨_, getT_mem hg, rfl⟩
    have := nodup_le (w.name :: x.map (·.1)) (b.map (·.1)) hn' fun k hk => by
      rcases List.mem_cons.1 hk with rfl | hk
      · refine hmem _ fun e => ?_
        unfold getF at hbw
        rw [e] at hbw
        simp [getT_nil] at hbw
      · obtain ⟨t, ht', rfl⟩ := List.mem_map.1 hk
        have e : treeF x t.1 = t.2 := by unfold treeF; rw [mem_getT hx.rise ht']; rfl
        exact hmem _ (h3 t.1 (by rw [e]; exact hx.some t ht'))
    have h8 := hb.len
    simp at this
    omega
theorem get_in {m : Nat} {f g : Forest} (hf : ForestOk m f) {w : Wr} (h : writeF f w = some g) (n k : By) : getF g n k = if w.name = n ∧ w.key = k then (if w.gone then none else some w.value) else getF f n k := getF_writeF hf h n k
/-- The forest while what goes is taken away: so many changes were looked at. -/
structure Mk1 (a b : Forest) (ds : List Wr) (i : Nat) (x : Forest) : Prop where
  ok : ForestOk 16 x
  get : ∀ n k, getF x n k = if (ds.take i).any (fun w => w.name == n && w.key == k && !(getF b n k).isSome) then none else getF a n k
/-- .. and while the others are put. -/
structure Mk2 (a b : Forest) (ds : List Wr) (i : Nat) (x : Forest) : Prop where
  ok : ForestOk 16 x
  get : ∀ n k, getF x n k = if (ds.take i).any (fun w => w.name == n && w.key == k) then getF b n k else if ds.any (fun w => w.name == n && w.key == k) && !(getF b n k).isSome then none else getF a n k
theorem any_at {ds : List Wr} {p : Wr → Bool} {i : Nat} {w : Wr} (h : ds[i]? = some w) : (ds.take (i + 1)).any p = ((ds.take i).any p || p w) := by
  obtain ⟨hi, rfl⟩ := List.getElem?_eq_some_iff.1 h
  rw [List.take_succ_eq_append_getElem hi, List.any_append]
  simp
/-- What is known of the changes. -/
structure Ch (a b : Forest) (ds : List Wr) : Prop where
  oka : ForestOk 16 a
  okb : ForestOk 16 b
  rise : ds.Pairwise LtW
  wr : ∀ w ∈ ds, WrOk (chgW b w)
  ne : ∀ w ∈ ds, getF a w.name w.key ≠ getF b w.name w.key
  all : ∀ n k, getF a n k ≠ getF b n k → ∃ w ∈ ds, w.name = n ∧ w.key = k
theorem ch_of {a b : Forest} (ha : ForestOk 16 a) (hb : ForestOk 16 b) {ps : List Wr} (h : IsPl a b ps) : Ch a b (difP a b ps) := by
  refine ⟨ha, hb, h.rise.filter _, fun w hw => chgW_ok ha hb h (List.mem_filter.1 hw).1, fun w hw => ?_, fun n k hne => ?_⟩
  · have := (List.mem_filter.1 hw).2
    simpa using this
  · refine ⟨placeW n k, List.mem_filter.2 ⟨(h.mem _).2 ⟨⟨rfl, rfl⟩, ?_⟩, ?_⟩, rfl, rfl⟩
    · show (getF a n k).isSome = true ∨ (getF b n k).isSome = true
      cases e : getF a n k with
      | some v => exact .inl rfl
      | none =>
        cases e2 : getF b n k with
        | some v => exact .inr rfl
        | none => rw [e, e2] at hne; exact absurd rfl hne
    · show decide (getF a n k ≠ getF b n k) = true
      exact decide_eq_true hne
theorem Mk1.start {a b : Forest} {ds : List Wr} (h : Ch a b ds) : Mk1 a b ds 0 a := ⟨h.oka, fun n k => by simp⟩
theorem place_ne {ds : List Wr} (hr : ds.Pairwise LtW) {i : Nat} {w : Wr} (hw : ds[i]? = some w) (p : Wr → Bool) (hp : ∀ x, p x = true → x.name = w.name ∧ x.key = w.key) : (ds.take i).any p = false := by
  rw [List.any_eq_false]
  intro x hx
  obtain ⟨hi, rfl⟩ := List.getElem?_eq_some_iff.1 hw
  obtain ⟨j, hj, rfl⟩ := List.mem_iff_getElem.1 hx
  rw [List.length_take] at hj
  rw [List.getElem_take]
  have := List.pairwise_iff_getElem.1 hr j i (by omega) hi (by omega)
  intro hc
  obtain ⟨e1, e2⟩ := hp _ hc
  rcases this with k | ⟨_, k⟩
  · rw [e1] at k; exact less_ne k rfl
  · rw [e2] at k; exact less_ne k rfl
/-- What was there when a change is looked at is what the one forest has. -/
theorem Mk1.was {a b : Forest} {ds : List Wr} (h : Ch a b ds) {i : Nat} {x : Forest} (hm : Mk1 a b ds i x) {w : Wr} (hw : ds[i]? = some w) : getF x w.name w.key = getF a w.name w.key := by
  rw [hm.get, place_ne h.rise hw]
  · simp
  · intro y hy
    simp only [Bool.and_eq_true, beq_iff_eq] at hy
    exact hy.1
theorem Mk1.stay {a b : Forest} {ds : List Wr} (h : Ch a b ds) {i : Nat} {x : Forest} (hm : Mk1 a b ds i x) {w : Wr} (hw : ds[i]? = some w) (hg : (chgW b w).gone = false) : Mk1 a b ds (i + 1) x := by
  refine ⟨hm.ok, fun n k => ?_⟩
  rw [hm.get, any_at hw]
  have hs : (getF b w.name w.key).isSome = true := by simpa [chgW] using hg
  by_cases c : w.name = n ∧ w.key = k
  · obtain ⟨rfl, rfl⟩ := c
    simp [hs]
  · have : (w.name == n && w.key == k && !(getF b n k).isSome) = false := by
      rw [Bool.and_eq_false_iff]; left
      simpa using c
    rw [this, Bool.or_false]
theorem Mk1.step {a b : Forest} {ds : List Wr} (h : Ch a b ds) {i : Nat} {x : Forest} (hm : Mk1 a b ds i x) {w : Wr} (hw : ds[i]? = some w) (hg : (chgW b w).gone = true) : ∃ y, applyF x [chgW b w] = some y ∧ Mk1 a b ds (i + 1) y := by
  have hmem := List.mem_of_getElem? hw
  obtain ⟨y, hy⟩ := del_some hm.ok (by decide) (h.wr w hmem) hg
  have hn : (getF b w.name w.key).isSome = false := by simpa [chgW] using hg
  have hget : ∀ n k, getF y n k = if (ds.take (i + 1)).any (fun w => w.name == n && w.key == k && !(getF b n k).isSome) then none else getF a n k := by
    intro n k
    rw [get_in hm.ok hy, any_at hw]
    by_cases c : w.name = n ∧ w.key = k
    · obtain ⟨rfl, rfl⟩ := c
      rw [if_pos ⟨rfl, rfl⟩, if_pos hg]
      simp [hn]
    · rw [if_neg (by exact c), hm.get]
      have : (w.name == n && w.key == k && !(getF b n k).isSome) = false := by
        rw [Bool.and_eq_false_iff]; left
        simpa using c
      rw [this, Bool.or_false]
  have hok := writeF_ok hm.ok (h.wr w hmem) hy
  obtain ⟨q, _, _⟩ := sub_ok hok h.oka fun n k hs => by
    rw [hget] at hs
    split at hs
    · cases hs
    · exact hs
  exact ⟨y, by rw [applyF_one]; exact hy, q, hget⟩
theorem Mk2.start {a b : Forest} {ds : List Wr} {x : Forest} (hm : Mk1 a b ds ds.length x) : Mk2 a b ds 0 x := by
  refine ⟨hm.ok, fun n k => ?_⟩
  rw [hm.get, List.take_length]
  have : ds.any (fun w => w.name == n && w.key == k && !(getF b n k).isSome) = (ds.any (fun w => w.name == n && w.key == k) && !(getF b n k).isSome) := by
    cases (getF b n k).isSome <;> simp
  rw [this]
  simp
theorem Mk2.sub {a b : Forest} {ds : List Wr} (h : Ch a b ds) {i : Nat} {x : Forest} (hm : Mk2 a b ds i x) (n k : By) (hs : (getF x n k).isSome = true) : (getF b n k).isSome = true := by
  rw [hm.get] at hs
  split at hs
  · exact hs
  · split at hs
    · cases hs
    · rename_i c1 c2
      by_cases e : getF a n k = getF b n k
      · rw [← e]; exact hs
      · obtain ⟨w, hw, e1, e2⟩ := h.all n k e
        have : ds.any (fun w => w.name == n && w.key == k) = true := List.any_eq_true.2 ⟨w, hw, by simp [e1, e2]⟩
        rw [this] at c2
        cases e3 : getF b n k with
        | none => rw [e3] at c2; exact absurd rfl c2
        | some v => rfl
theorem Mk2.skip {a b : Forest} {ds : List Wr} (h : Ch a b ds) {i : Nat} {x : Forest} (hm : Mk2 a b ds i x) {w : Wr} (hw : ds[i]? = some w) (hg : (chgW b w).gone = true) : Mk2 a b ds (i + 1) x := by
  refine ⟨hm.ok, fun n k => ?_⟩
  have hn : (getF b w.name w.key).isSome = false := by simpa [chgW] using hg
  rw [hm.get, any_at hw]
  by_cases c : w.name = n ∧ w.key = k
  · obtain ⟨rfl, rfl⟩ := c
    have hall : ds.any (fun v => v.name == w.name && v.key == w.key) = true := List.any_eq_true.2 ⟨w, List.mem_of_getElem? hw, by simp⟩
    have hb : getF b w.name w.key = none := by cases e : getF b w.name w.key with | none => rfl | some v => rw [e] at hn; cases hn
    rw [hall, hb]
    simp
  · have : (w.name == n && w.key == k) = false := by simpa using c
    rw [this, Bool.or_false]
theorem Mk2.step {a b : Forest} {ds : List Wr} (h : Ch a b ds) {i : Nat} {x : Forest} (hm : Mk2 a b ds i x) {w : Wr} (hw : ds[i]? = some w) (hg : (chgW b w).gone = false) : ∃ y, applyF x [chgW b w] = some y ∧ Mk2 a b ds (i + 1) y := by
  have hmem := List.mem_of_getElem? hw
  have hs : (getF b w.name w.key).isSome = true := by simpa [chgW] using hg
  obtain ⟨y, hy⟩ := put_some hm.ok h.okb (by decide) (hm.sub h) (h.wr w hmem) hs
  have hget : ∀ n k, getF y n k = if (ds.take (i + 1)).any (fun w => w.name == n && w.key == k) then getF b n k else if ds.any (fun w => w.name == n && w.key == k) && !(getF b n k).isSome then none else getF a n k := by
    intro n k
    rw [get_in hm.ok hy, any_at hw]
    by_cases c : w.name = n ∧ w.key = k
    · obtain ⟨rfl, rfl⟩ := c
      rw [if_pos ⟨rfl, rfl⟩, if_neg (by rw [hg]; decide)]
      simp only [beq_self_eq_true, Bool.and_self, Bool.or_true, if_true]
      obtain ⟨v, hv⟩ := Option.isSome_iff_exists.1 hs
      show some ((getF b w.name w.key).getD []) = getF b w.name w.key
      rw [hv]; rfl
    · rw [if_neg (by exact c), hm.get]
      have : (w.name == n && w.key == k) = false := by simpa using c
      rw [this, Bool.or_false]
  have hok := writeF_ok hm.ok (h.wr w hmem) hy
  obtain ⟨q, _, _⟩ := sub_ok hok h.okb fun n k hk => by
    rw [get_in hm.ok hy] at hk
    split at hk
    · rename_i c
      obtain ⟨rfl, rfl⟩ := c
      exact hs
    · exact hm.sub h n k hk
  exact ⟨y, by rw [applyF_one]; exact hy, q, hget⟩
theorem Mk2.end {a b : Forest} {ds : List Wr} (h : Ch a b ds) {x : Forest} (hm : Mk2 a b ds ds.length x) : x = b := by
  refine forest_ext hm.ok h.okb fun n k => ?_
  rw [hm.get, List.take_length]
  split
  · rfl
  · rename_i c
    have : ds.any (fun w => w.name == n && w.key == k) = false := by simpa using c
    rw [this]
    simp only [Bool.false_and, Bool.false_eq_true, if_false]
    by_cases e : getF a n k = getF b n k
    · exact e
    · obtain ⟨w, hw, e1, e2⟩ := h.all n k e
      rw [List.any_eq_true.2 ⟨w, hw, by simp [e1, e2]⟩] at this
      cases this
end Go.Proofs.Ytlimmmidfhpakaa
namespace Go.Proofs.Ytlimmmidfhpakaa
set_option linter.unusedVariables false
theorem compF_snoc (x : Wr) : ∀ (p : Wr) (l : List Wr), compF p (l ++ [x]) = compF p l ++ (if cmpW x ((p :: l).getLast (by simp)) = 0 then [] else [x])
  | p, [] => by
    by_cases h : cmpW x p = 0 <;> simp [compF, h]
  | p, y :: l => by
    have ih := compF_snoc x y l
    simp only [List.cons_append, compF]
    rw [ih]
    have e : (p :: y :: l).getLast (by simp) = (y :: l).getLast (by simp) := by simp [List.getLast_cons]
    rw [e]
    split <;> simp
theorem compact_snoc {l : List Wr} {x p : Wr} (hp : l.getLast? = some p) : compactW (l ++ [x]) = if cmpW x p = 0 then compactW l else compactW l ++ [x] := by
  cases l with
  | nil => simp at hp
  | cons y l =>
    have e : (y :: l).getLast (by simp) = p := by rw [List.getLast?_eq_some_getLast (by simp)] at hp; exact Option.some.inj hp
    simp only [List.cons_append, compactW]
    rw [compF_snoc, e]
    split <;> simp
theorem compact_step {l : List Wr} {j : Nat} {x p : Wr} (hx : l[j + 1]? = some x) (hp : l[j]? = some p) : compactW (l.take (j + 2)) = if cmpW x p = 0 then compactW (l.take (j + 1)) else compactW (l.take (j + 1)) ++ [x] := by
  have e : l.take (j + 2) = l.take (j + 1) ++ [x] := by rw [List.take_add_one, hx]; rfl
  have e2 : (l.take (j + 1)).getLast? = some p := by rw [List.take_add_one, hp]; simp
  rw [e, compact_snoc e2]
theorem compact_same {l : List Wr} {i : Nat} {x p : Wr} (hi : 1 ≤ i) (hx : l[i]? = some x) (hp : l[i - 1]? = some p) (h : cmpW x p = 0) : compactW (l.take (i + 1)) = compactW (l.take i) := by
  obtain ⟨j, rfl⟩ : ∃ j, i = j + 1 := ⟨i - 1, by omega⟩
  rw [compact_step hx (by simpa using hp), if_pos h]
theorem compact_more {l : List Wr} {i : Nat} {x p : Wr} (hi : 1 ≤ i) (hx : l[i]? = some x) (hp : l[i - 1]? = some p) (h : ¬ cmpW x p = 0) : compactW (l.take (i + 1)) = compactW (l.take i) ++ [x] := by
  obtain ⟨j, rfl⟩ : ∃ j, i = j + 1 := ⟨i - 1, by omega⟩
  rw [compact_step hx (by simpa using hp), if_neg h]
theorem compact_short {l : List Wr} (h : l.length < 2) : compactW l = l := by
  match l, h with
  | [], _ => rfl
  | [_], _ => rfl
theorem drop_get {l m : List Wr} {a j : Nat} (h : m.drop a = l.drop a) (hj : a ≤ j) : m[j]? = l[j]? := by
  have := congrArg (fun z => z[j - a]?) h
  simpa [List.getElem?_drop, show a + (j - a) = j from by omega] using this
theorem drop_more {l m : List Wr} {a b : Nat} (h : m.drop a = l.drop a) (hb : a ≤ b) : m.drop b = l.drop b := by
  obtain ⟨c, rfl⟩ : ∃ c, b = a + c := ⟨b - a, by omega⟩
  rw [← List.drop_drop, ← List.drop_drop, h]
theorem set_drop {l m : List Wr} {a i : Nat} {x : Wr} (h : m.drop a = l.drop a) (hi : i < a + 1) : (m.set i x).drop (a + 1) = l.drop (a + 1) := by
  rw [List.drop_set_of_lt hi]
  exact drop_more h (by omega)
theorem set_take {m : List Wr} {i : Nat} {x : Wr} (hi : i < m.length) : (m.set i x).take (i + 1) = m.take i ++ [x] := by
  rw [List.take_add_one, List.take_set_of_le (Nat.le_refl _)]
  simp [hi]
end Go.Proofs.Ytlimmmidfhpakaa
namespace Go.Proofs.Ytlimmmidfhpakaa
set_option linter.unusedVariables false
theorem tenW_len {f : Forest} (h : ∀ t ∈ f, TreeOk 60 t.2) : (f.flatMap tenW).length ≤ 60 * f.length := by
  induction f with
  | nil => simp
  | cons t f ih =>
    rw [List.flatMap_cons, List.length_append, List.length_cons]
    have h1 := ih fun x hx => h x (List.mem_cons_of_mem _ hx)
    have h2 := (h t (List.mem_cons_self ..)).len
    have h3 : (tenW t).length = t.2.length := by unfold tenW; simp
    omega
theorem forsW_len {fs : List Forest} (h : ∀ f ∈ fs, ForestOk 60 f) : (fs.flatMap forW).length ≤ 480 * fs.length := by
  induction fs with
  | nil => simp
  | cons f fs ih =>
    rw [List.flatMap_cons, List.length_append, List.length_cons]
    have h1 := ih fun x hx => h x (List.mem_cons_of_mem _ hx)
    have ok := h f (List.mem_cons_self ..)
    have h2 := tenW_len ok.tree
    have h3 := ok.len
    have h4 : (forW f).length = (f.flatMap tenW).length := rfl
    omega
/-- What has been gathered: of the forests ahead of g, of the tenants ahead of i in f, of the pairs ahead of j in t. -/
def gat (fs : List Forest) (g : Nat) (f : Forest) (i : Nat) (t : By × List Pr) (j : Nat) : List Wr :=
  (fs.take g).flatMap forW ++ ((f.take i).flatMap tenW ++ (t.2.take j).map fun p => placeW t.1 p.1)
theorem gat_len {fs : List Forest} (h : ∀ f ∈ fs, ForestOk 60 f) (hl : fs.length ≤ 2) (g : Nat) {f : Forest} (hf : ForestOk 60 f) (i : Nat) {t : By × List Pr} (ht : t.2.length ≤ 60) (j : Nat) : (gat fs g f i t j).length ≤ 2000 := by
  unfold gat
  have h1 := forsW_len (fs := fs.take g) fun x hx => h x (List.mem_of_mem_take hx)
  have h2 := tenW_len (f := f.take i) fun x hx => hf.tree x (List.mem_of_mem_take hx)
  have h3 := hf.len
  simp only [List.length_append, List.length_map, List.length_take] at *
  omega
theorem gat_snoc {fs : List Forest} {g : Nat} {f : Forest} {i : Nat} {t : By × List Pr} {j : Nat} {p : Pr} (hp : t.2[j]? = some p) : gat fs g f i t j ++ [(⟨t.1, p.1, false, []⟩ : Wr)] = gat fs g f i t (j + 1) := by
  unfold gat
  rw [List.take_add_one, hp]
  simp [placeW]
theorem gat_tree {fs : List Forest} {g : Nat} {f : Forest} {i : Nat} {t : By × List Pr} {j : Nat} (ht : f[i]? = some t) (hj : t.2.length ≤ j) (u : By × List Pr) : gat fs g f i t j = gat fs g f (i + 1) u 0 := by
  unfold gat
  rw [List.take_add_one, ht, List.take_of_length_le hj]
  simp [tenW]
theorem gat_any (fs : List Forest) (g : Nat) (f : Forest) (i : Nat) (t u : By × List Pr) : gat fs g f i t 0 = gat fs g f i u 0 := by
  unfold gat; simp
theorem gat_forest {fs : List Forest} {g : Nat} {f : Forest} {i : Nat} {t : By × List Pr} (hf : fs[g]? = some f) (hi : f.length ≤ i) (h : Forest) : gat fs g f i t 0 = gat fs (g + 1) h 0 t 0 := by
  unfold gat
  rw [List.take_add_one, hf, List.take_of_length_le hi]
  simp [forW]
theorem gat_any2 (fs : List Forest) (g : Nat) (f h : Forest) (t : By × List Pr) : gat fs g f 0 t 0 = gat fs g h 0 t 0 := by
  unfold gat; simp
theorem gat_end {fs : List Forest} {g : Nat} (hg : fs.length ≤ g) (f : Forest) (t : By × List Pr) : gat fs g f 0 t 0 = fs.flatMap forW := by
  unfold gat; rw [List.take_of_length_le hg]; simp
theorem gat_zero (fs : List Forest) (f : Forest) (t : By × List Pr) : gat fs 0 f 0 t 0 = [] := by
  unfold gat; simp
theorem compF_len : ∀ (p : Wr) (l : List Wr), (compF p l).length ≤ l.length
  | p, [] => Nat.le_refl _
  | p, x :: l => by
    have := compF_len x l
    unfold compF
    split
    · simp only [List.length_cons]; omega
    · simp only [List.length_cons]; omega
theorem compactW_len (l : List Wr) : (compactW l).length ≤ l.length := by
  cases l with
  | nil => exact Nat.le_refl _
  | cons x l =>
    have := compF_len x l
    simp only [compactW, List.length_cons]
    omega
theorem chgs_len (a b : Forest) (ps : List Wr) : (chgs a b ps).length ≤ ps.length := by
  unfold chgs difP
  rw [List.length_map]
  exact List.length_filter_le _ _
theorem chgs_more {a b : Forest} {ps : List Wr} {i : Nat} {p : Wr} (hp : ps[i]? = some p) (h : ¬ getF a p.name p.key = getF b p.name p.key) : chgs a b (ps.take i) ++ [chgW b p] = chgs a b (ps.take (i + 1)) := by
  rw [List.take_add_one, hp]
  show _ = chgs a b (ps.take i ++ [p])
  rw [chgs_snoc, if_neg h]
theorem chgs_less {a b : Forest} {ps : List Wr} {i : Nat} {p : Wr} (hp : ps[i]? = some p) (h : getF a p.name p.key = getF b p.name p.key) : chgs a b (ps.take i) = chgs a b (ps.take (i + 1)) := by
  rw [List.take_add_one, hp]
  show _ = chgs a b (ps.take i ++ [p])
  rw [chgs_snoc, if_pos h]
theorem pls_len {a b : Forest} (ha : ForestOk 60 a) (hb : ForestOk 60 b) {so : List Wr} (hp : so.Perm (forW a ++ forW b)) : (compactW so).length ≤ 2000 := by
  have h1 := compactW_len so
  have h2 := hp.length_eq
  have h3 := forsW_len (fs := [a, b]) (by intro f hf; rcases List.mem_cons.1 hf with rfl | hf; exact ha; rw [List.mem_singleton.1 hf]; exact hb)
  simp only [List.flatMap_cons, List.flatMap_nil, List.append_nil, List.length_cons, List.length_nil] at h3
  omega
end Go.Proofs.Ytlimmmidfhpakaa
namespace Go.Proofs.Ytlimmmidfhpakaa
open Go.RowKit Go.Sort
set_option linter.unusedVariables false
set_option linter.unusedSimpArgs false
set_option maxRecDepth 100000
/-- A step of a region that draws its order and leaves the world alone. -/
theorem ws_do {P : Program} {ops : Array Oper} {w : World} {Q : Act → Prop} {a : Act} {o : Oper} {rest : List Oper} (hw : Region.wanted o (yielded ops a.tmps) = true) (v : Value) (hr : (execOp a.eval o).run P w = .ok (.value v) w) (h : wpStill P ops w Q rest (a.put o.dst v)) : wpStill P ops w Q (o :: rest) a := by
  refine wpStill_step (fun K hK => ?_)
  rw [if_pos hw]
  unfold Oper.still
  rw [hr]
  exact ⟨rfl, hK _ h⟩
theorem ws_call {P : Program} {ops : Array Oper} {w : World} {Q : Act → Prop} {a : Act} {o : Oper} {rest : List Oper} {k : FuncId} {vs : Array Value} (hw : Region.wanted o (yielded ops a.tmps) = true) (v : Value) (hr : (execOp a.eval o).run P w = .ok (.enter k vs) w) (hc : Calls P k vs w fun e w' => e = .returned v ∧ w' = w) (h : wpStill P ops w Q rest (a.put o.dst v)) : wpStill P ops w Q (o :: rest) a := by
  refine wpStill_step (fun K hK => ?_)
  rw [if_pos hw]
  unfold Oper.still
  rw [hr]
  exact ⟨rfl, v, hc, hK _ h⟩
theorem region_still {P : Program} {id : Nat} {Q : Exit → Act → World → Prop} {a : Act} {w : World} {l : List Oper} (n : Nat) (hm : P.follows .mixedOrders = true) (hB : Region.lexTailB .any l.toArray n = true)
    (h : wpStill P l.toArray w.drew (fun a' => WL P l.toArray Q (l.drop n) a' w.drew) (l.take n) a) : (Code.region id l.toArray true).wp P Q a w :=
  wp_region_still_tail n hm hB (by
    have key : ∀ (ls : List Oper) (a : Act), wpStill P l.toArray w.drew (fun a' => WL P l.toArray Q (l.drop n) a' w.drew) ls a → wpStill P l.toArray w.drew (fun a' => wpList P l.toArray Q (l.drop n) a' w.drew) ls a := by
      intro ls
      induction ls with
      | nil => intro a h; exact h.out
      | cons o ls ih =>
        intro a h
        unfold wpStill at h ⊢
        split
        · rename_i hw
          rw [if_pos hw] at h
          revert h
          unfold Oper.still
          generalize (execOp a.eval o).run P w.drew = r
          intro h
          cases r with
          | ok n w' => cases n <;> simp only [Oper.stillUpon] at h ⊢ <;> first | exact ⟨h.1, ih _ h.2⟩ | exact ⟨h.1, by obtain ⟨v, h1, h2⟩ := h.2; exact ⟨v, h1, ih _ h2⟩⟩ | exact h
          | halt x w' => exact h
        · rename_i hw
          rw [if_neg hw] at h
          exact ih _ h
    exact key _ _ h)
set_option maxHeartbeats 8000000 in
theorem bytesCompare_x (F : Fz) (w : World) (v u : Value) (l m : List UInt8) (hs : Sat w F) (hv : Bs F v l) (hu : Bs F u m) :
    Calls Try.prog 45 #[v, u] w fun e w' => e = .returned (.int .i64 (cmpL l m)) ∧ w' = w := by
 obtain ⟨a, c, rfl, _⟩ := hv.shape
 obtain ⟨a2, c2, rfl, _⟩ := hu.shape
 have S := St.start hs
 go_enter Try.func45, Try.ntmps45
 refine wp_seq_k (fun K1 hK1 => region_wl ?_)
 refine do_ rfl (.int .i64 0) (ex_assign _) ?_
 simp only [pS, pN, pA, pC, pZ]
 refine wl_nil (hK1 _ _ ?_)
 refine wp_seq_k (fun K2 hK2 => region_wl ?_)
 refine do_ rfl (.slice a l.length c) (ex_move _) ?_
 simp only [pS, pN, pA, pC, pZ]
 refine do_ rfl (.slice a2 m.length c2) (ex_move _) ?_
 simp only [pS, pN, pA, pC, pZ]
 refine do_ rfl (.int .i64 (cmpL l m)) (ex_fnv (vs := #[(.slice a l.length c), (.slice a2 m.length c2)]) (map2 rfl rfl) rfl (bytealgCompare_run (S).sat hv hu)) ?_
 simp only [pS, pN, pA, pC, pZ]
 refine do_ rfl (.int .i64 (cmpL l m)) (ex_assign _) ?_
 simp only [pS, pN, pA, pC, pZ]
 refine wl_nil (hK2 _ _ ?_)
 refine wp_ret ?_
 (try simp only [Exit.then, Exit.inBlock, ↓reduceIte, Nat.reduceEqDiff])
 refine bodyPost_ret (v := (.int .i64 (cmpL l m))) ?_ rfl ?_
 ·exact res_t rfl rfl
 ·exact ⟨rfl, rfl⟩
set_option maxHeartbeats 8000000 in
theorem or2_x (w : World) (n : Nat) (x y : Int) (h0 : w.cell? ⟨n, 0, none⟩ = some (.int .i64 x)) (h1 : w.cell? ⟨n, 1, none⟩ = some (.int .i64 y)) :
    Calls Try.prog 60 #[.slice (some ⟨n, 0, none⟩) 2 2] w fun e w' => e = .returned (.int .i64 (if x ≠ 0 then x else y)) ∧ w' = w := by
 go_enter Try.func60, Try.ntmps60
 refine wp_seq_k (fun K1 hK1 => region_wl ?_)
 refine do_ rfl (.int .i64 0) (ex_assign _) ?_
 simp only [pS, pN, pA, pC, pZ]
 refine wl_nil (hK1 _ _ ?_)
 refine wp_seq_k (fun K2 hK2 => region_wl ?_)
 refine do_ rfl (.int .i64 0) (ex_assign _) ?_
 simp only [pS, pN, pA, pC, pZ]
 refine wl_nil (hK2 _ _ ?_)
 refine wp_seq_k (fun K3 hK3 => ?_)
 refine wp_seq_k (fun K4 hK4 => region_wl ?_)
 refine do_ rfl (.slice (some ⟨n, 0, none⟩) 2 2) (ex_move _) ?_
 simp only [pS, pN, pA, pC, pZ]
 refine do_ rfl (.int .i64 2) (ex_len Try.underlying114 rfl) ?_
 simp only [pS, pN, pA, pC, pZ]
 refine do_ rfl (.int .i64 0) (ex_move _) ?_
 simp only [pS, pN, pA, pC, pZ]
 refine wl_nil (hK4 _ _ ?_)
 refine wp_block ?_
 refine wp_loop_rounds 3 ?_
 rw [rounds_succ]
 refine wp_seq_k (fun K00 hK00 => region_wl ?_)
 refine do_ rfl (.bool true) (ex_lss (m := 0) (n := 2) (b := true) rfl rfl rfl) ?_
 simp only [pS, pN, pA, pC, pZ]
 refine wl_nil (hK00 _ _ ?_)
 refine wp_seq_k (fun K01 hK01 => ?_)
 refine wp_cond_true rfl ?_
 refine wp_skip ?_
 refine hK01 _ _ ?_
 refine wp_seq_k (fun K02 hK02 => ?_)
 refine wp_block ?_
 refine wp_seq_k (fun K03 hK03 => region_wl ?_)
 refine do_ rfl (.pointer (some ⟨n, 0, none⟩)) (ex_at (i := 0) (sz := 1) Try.underlying114 (sizeof_3 _) rfl rfl rfl (by omega) rfl) ?_
 simp only [pS, pN, pA, pC, pZ]
 refine do_ rfl (.int .i64 x) (ex_load rfl (load1 (nagg_3 _) h0)) ?_
 simp only [pS, pN, pA, pC, pZ]
 refine do_ rfl (.int .i64 x) (ex_assign _) ?_
 simp only [pS, pN, pA, pC, pZ]
 refine wl_nil (hK03 _ _ ?_)
 refine wp_seq_k (fun K04 hK04 => region_wl ?_)
 refine do_ rfl (.int .i64 x) (ex_move _) ?_
 simp only [pS, pN, pA, pC, pZ]
 refine do_ rfl (.int .i64 0) (ex_move _) ?_
 simp only [pS, pN, pA, pC, pZ]
 refine do_ rfl (.bool (x != 0)) (ex_neq (m := x) (n := 0) rfl rfl rfl) ?_
 simp only [pS, pN, pA, pC, pZ]
 refine wl_nil (hK04 _ _ ?_)
 by_cases hc0 : x = 0
 ·rw [show (x != 0) = false from by simp [hc0]]
  refine wp_cond_false rfl ?_
  refine wp_skip ?_
  (try simp only [Exit.then, Exit.inBlock, ↓reduceIte, Nat.reduceEqDiff])
  refine hK02 _ _ ?_
  refine region_wl ?_
  refine do_ rfl (.int .i64 1) (ex_add (m := 0) (n := 1) (r := 1) rfl rfl rfl (by omega) (by omega)) ?_
  simp only [pS, pN, pA, pC, pZ]
  refine do_ rfl (.int .i64 1) (ex_move _) ?_
  simp only [pS, pN, pA, pC, pZ]
  refine wl_nil ?_
  (try simp only [Exit.then, Exit.inBlock, ↓reduceIte, Nat.reduceEqDiff])
  rw [rounds_succ]
  refine wp_seq_k (fun K10 hK10 => region_wl ?_)
  refine do_ rfl (.bool true) (ex_lss (m := 1) (n := 2) (b := true) rfl rfl rfl) ?_
  simp only [pS, pN, pA, pC, pZ]
  refine wl_nil (hK10 _ _ ?_)
  refine wp_seq_k (fun K11 hK11 => ?_)
  refine wp_cond_true rfl ?_
  refine wp_skip ?_
  refine hK11 _ _ ?_
  refine wp_seq_k (fun K12 hK12 => ?_)
  refine wp_block ?_
  refine wp_seq_k (fun K13 hK13 => region_wl ?_)
  refine do_ rfl (.pointer (some ⟨n, 1, none⟩)) (ex_at (i := 1) (sz := 1) Try.underlying114 (sizeof_3 _) rfl rfl rfl (by omega) rfl) ?_
  simp only [pS, pN, pA, pC, pZ]
  refine do_ rfl (.int .i64 y) (ex_load rfl (load1 (nagg_3 _) h1)) ?_
  simp only [pS, pN, pA, pC, pZ]
  refine do_ rfl (.int .i64 y) (ex_assign _) ?_
  simp only [pS, pN, pA, pC, pZ]
  refine wl_nil (hK13 _ _ ?_)
  refine wp_seq_k (fun K14 hK14 => region_wl ?_)
  refine do_ rfl (.int .i64 y) (ex_move _) ?_
  simp only [pS, pN, pA, pC, pZ]
  refine do_ rfl (.int .i64 0) (ex_move _) ?_
  simp only [pS, pN, pA, pC, pZ]
  refine do_ rfl (.bool (y != 0)) (ex_neq (m := y) (n := 0) rfl rfl rfl) ?_
  simp only [pS, pN, pA, pC, pZ]
  refine wl_nil (hK14 _ _ ?_)
  by_cases hc1 : y = 0
  ·rw [show (y != 0) = false from by simp [hc1]]
   refine wp_cond_false rfl ?_
   refine wp_skip ?_
   (try simp only [Exit.then, Exit.inBlock, ↓reduceIte, Nat.reduceEqDiff])
   refine hK12 _ _ ?_
   refine region_wl ?_
   refine do_ rfl (.int .i64 2) (ex_add (m := 1) (n := 1) (r := 2) rfl rfl rfl (by omega) (by omega)) ?_
   simp only [pS, pN, pA, pC, pZ]
   refine do_ rfl (.int .i64 2) (ex_move _) ?_
   simp only [pS, pN, pA, pC, pZ]
   refine wl_nil ?_
   (try simp only [Exit.then, Exit.inBlock, ↓reduceIte, Nat.reduceEqDiff])
   rw [rounds_succ]
   refine wp_seq_k (fun K20 hK20 => region_wl ?_)
   refine do_ rfl (.bool false) (ex_lss (m := 2) (n := 2) (b := false) rfl rfl rfl) ?_
   simp only [pS, pN, pA, pC, pZ]
   refine wl_nil (hK20 _ _ ?_)
   refine wp_seq_k (fun K21 hK21 => ?_)
   refine wp_cond_false rfl ?_
   refine wp_exit ?_
   (try simp only [Exit.then, Exit.inBlock, ↓reduceIte, Nat.reduceEqDiff])
   refine hK3 _ _ ?_
   refine wp_seq_k (fun K22 hK22 => region_wl ?_)
   refine do_ rfl (.int .i64 0) (ex_move _) ?_
   simp only [pS, pN, pA, pC, pZ]
   refine do_ rfl (.int .i64 0) (ex_assign _) ?_
   simp only [pS, pN, pA, pC, pZ]
   refine wl_nil (hK22 _ _ ?_)
   refine wp_ret ?_
   (try simp only [Exit.then, Exit.inBlock, ↓reduceIte, Nat.reduceEqDiff])
   refine bodyPost_ret (v := (.int .i64 0)) ?_ rfl ?_
   ·exact res_t rfl rfl
   ·exact ⟨by rw [if_neg (by simpa using hc0), hc1], rfl⟩
  ·rw [show (y != 0) = true from bne_iff_ne.2 hc1]
   refine wp_cond_true rfl ?_
   refine wp_seq_k (fun K15 hK15 => region_wl ?_)
   refine do_ rfl (.int .i64 y) (ex_move _) ?_
   simp only [pS, pN, pA, pC, pZ]
   refine do_ rfl (.int .i64 y) (ex_assign _) ?_
   simp only [pS, pN, pA, pC, pZ]
   refine wl_nil (hK15 _ _ ?_)
   refine wp_ret ?_
   (try simp only [Exit.then, Exit.inBlock, ↓reduceIte, Nat.reduceEqDiff])
   refine bodyPost_ret (v := (.int .i64 y)) ?_ rfl ?_
   ·exact res_t rfl rfl
   ·exact ⟨by rw [if_neg (by simpa using hc0)], rfl⟩
 ·rw [show (x != 0) = true from bne_iff_ne.2 hc0]
  refine wp_cond_true rfl ?_
  refine wp_seq_k (fun K05 hK05 => region_wl ?_)
  refine do_ rfl (.int .i64 x) (ex_move _) ?_
  simp only [pS, pN, pA, pC, pZ]
  refine do_ rfl (.int .i64 x) (ex_assign _) ?_
  simp only [pS, pN, pA, pC, pZ]
  refine wl_nil (hK05 _ _ ?_)
  refine wp_ret ?_
  (try simp only [Exit.then, Exit.inBlock, ↓reduceIte, Nat.reduceEqDiff])
  refine bodyPost_ret (v := (.int .i64 x)) ?_ rfl ?_
  ·exact res_t rfl rfl
  ·exact ⟨by rw [if_pos hc0], rfl⟩
theorem grow3 (w : World) (o1 o2 o3 : Obj) : (((w.alloc o1).alloc o2).drew).alloc o3 = grow (w.drewN 1) #[o1, o2, o3] := by
  rw [alloc_eq_grow, alloc_eq_grow, alloc_eq_grow, drew_grow, drew_grow, grow_grow, grow_grow]
  rfl
set_option maxHeartbeats 8000000 in
theorem compare_x (F : Fz) (w : World) (cs ds : List Value) (p q : Wr) (hs : Sat w F) (hp : WrC F cs p) (hq : WrC F ds q) :
    Calls Try.prog 47 #[.agg cs.toArray, .agg ds.toArray] w fun e w' => e = .returned (.int .i64 (cmpW p q)) ∧ ∃ n os, w' = grow (w.drewN n) os := by
 obtain ⟨a0, a1, a2, a3, rfl, p0, p1, p2, p3⟩ := hp
 obtain ⟨b0, b1, b2, b3, rfl, q0, q1, q2, q3⟩ := hq
 go_enter Try.func47, Try.ntmps47
 have S1 := (St.start hs).alloc #[a0, a1, a2, a3] 27
 have S2 := S1.alloc #[b0, b1, b2, b3] 27
 generalize e1 : w.alloc (.cells #[a0, a1, a2, a3] 27) = w1 at S1 S2
 generalize e2 : w1.alloc (.cells #[b0, b1, b2, b3] 27) = w2 at S2
 have S3 : St w F w2.drew F [⟨w1.heap.size, [b0, b1, b2, b3], 27⟩, ⟨w.heap.size, [a0, a1, a2, a3], 27⟩] [] := S2.tells (Below.refl _ _).drew
 have S4 := S3.alloc #[.int .i64 (cmpL p.name q.name), .int .i64 (cmpL p.key q.key)] 3
 generalize e3 : w2.drew.alloc (.cells #[.int .i64 (cmpL p.name q.name), .int .i64 (cmpL p.key q.key)] 3) = w3 at S4
 refine wp_seq_k (fun K1 hK1 => region_wl ?_)
 refine do_ (w' := w1) rfl (.pointer (some ⟨w.heap.size, 0, none⟩)) (by rw [← e1]; exact ex_box (v := .agg #[a0, a1, a2, a3]) rfl) ?_
 simp only [pS, pN, pA, pC, pZ]
 refine do_ (w' := w2) rfl (.pointer (some ⟨w1.heap.size, 0, none⟩)) (by rw [← e2]; exact ex_box (v := .agg #[b0, b1, b2, b3]) rfl) ?_
 simp only [pS, pN, pA, pC, pZ]
 refine do_ rfl (.int .i64 0) (ex_assign _) ?_
 simp only [pS, pN, pA, pC, pZ]
 refine wl_nil (hK1 _ _ ?_)
 refine wp_seq_k (fun K2 hK2 => ?_)
 refine region_still 10 (by kernel_rfl) (by kernel_rfl) ?_
 simp only [List.take_succ_cons, List.take_zero]
 refine ws_do rfl (.pointer (some ⟨w.heap.size, 0, none⟩)) (ex_field (q := ⟨w.heap.size, 0, none⟩) rfl (fa_27_0 _ _)) ?_
 simp only [pS, pN, pA, pC, pZ]
 refine ws_do rfl a0 (ex_load rfl (load1 (nagg_25 _) (St.cell S3 (i := 1) rfl rfl))) ?_
 simp only [pS, pN, pA, pC, pZ]
 refine ws_do rfl (.pointer (some ⟨w1.heap.size, 0, none⟩)) (ex_field (q := ⟨w1.heap.size, 0, none⟩) rfl (fa_27_0 _ _)) ?_
 simp only [pS, pN, pA, pC, pZ]
 refine ws_do rfl b0 (ex_load rfl (load1 (nagg_25 _) (St.cell S3 (i := 0) rfl rfl))) ?_
 simp only [pS, pN, pA, pC, pZ]
 refine ws_call rfl (.int .i64 (cmpL p.name q.name)) (ex_fn (vs := #[a0, b0]) (map2 rfl rfl) rfl (ent_45 _ _)) (bytesCompare_x F _ _ _ _ _ S3.sat p0 q0) ?_
 simp only [pS, pN, pA, pC, pZ]
 refine ws_do rfl (.pointer (some ⟨w.heap.size, 1, none⟩)) (ex_field (q := ⟨w.heap.size, 1, none⟩) rfl (fa_27_1 _ _)) ?_
 simp only [pS, pN, pA, pC, pZ]
 refine ws_do rfl a1 (ex_load rfl (load1 (nagg_25 _) (St.cell S3 (i := 1) rfl rfl))) ?_
 simp only [pS, pN, pA, pC, pZ]
 refine ws_do rfl (.pointer (some ⟨w1.heap.size, 1, none⟩)) (ex_field (q := ⟨w1.heap.size, 1, none⟩) rfl (fa_27_1 _ _)) ?_
 simp only [pS, pN, pA, pC, pZ]
 refine ws_do rfl b1 (ex_load rfl (load1 (nagg_25 _) (St.cell S3 (i := 0) rfl rfl))) ?_
 simp only [pS, pN, pA, pC, pZ]
 refine ws_call rfl (.int .i64 (cmpL p.key q.key)) (ex_fn (vs := #[a1, b1]) (map2 rfl rfl) rfl (ent_45 _ _)) (bytesCompare_x F _ _ _ _ _ S3.sat p1 q1) ?_
 simp only [pS, pN, pA, pC, pZ]
 refine wpStill_nil ?_
 simp only [List.drop_succ_cons, List.drop_zero]
 refine do_ (w' := w3) rfl (.slice (some ⟨w2.heap.size, 0, none⟩) 2 2) (by rw [← e3]; exact ex_lit (ps := #[(0, .int .i64 (cmpL p.name q.name)), (1, .int .i64 (cmpL p.key q.key))]) (cells := #[.int .i64 (cmpL p.name q.name), .int .i64 (cmpL p.key q.key)]) (E := 3) (bmap2 rfl rfl) (fun w => by kernel_rfl)) ?_
 simp only [pS, pN, pA, pC, pZ]
 refine doC rfl (ex_fn (vs := #[.slice (some ⟨w2.heap.size, 0, none⟩) 2 2]) (map1 rfl) rfl (ent_60 _ _)) (or2_x w3 w2.heap.size (cmpL p.name q.name) (cmpL p.key q.key) (St.cell S4 (i := 0) rfl rfl) (St.cell S4 (i := 0) rfl rfl)) (fun e w' hh => ?_)
 obtain ⟨rfl, rfl⟩ := hh
 refine ⟨_, rfl, ?_⟩
 simp only [pS, pN, pA, pC, pZ]
 refine do_ rfl (.int .i64 (cmpW p q)) (ex_assign _) ?_
 simp only [pS, pN, pA, pC, pZ]
 refine wl_nil (hK2 _ _ ?_)
 refine wp_ret ?_
 (try simp only [Exit.then, Exit.inBlock, ↓reduceIte, Nat.reduceEqDiff])
 refine bodyPost_ret (v := (.int .i64 (cmpW p q))) ?_ rfl ?_
 ·exact res_t rfl rfl
 ·have hz := grow3 w (.cells #[a0, a1, a2, a3] 27) (.cells #[b0, b1, b2, b3] 27) (.cells #[.int .i64 (cmpL p.name q.name), .int .i64 (cmpL p.key q.key)] 3)
  rw [e1, e2, e3] at hz
  exact And.intro rfl (Exists.intro 1 (Exists.intro _ hz))
theorem compare_spec2 (F : Fz) (w : World) (cs ds : List Value) (p q : Wr) (hs : Sat w F) (hp : WrC F cs p) (hq : WrC F ds q) :
    Calls Try.prog 47 #[.agg cs.toArray, .agg ds.toArray] w (Tells w (.int .i64 (cmpW p q))) :=
  (compare_x F w cs ds p q hs hp hq).mono fun e w' hh => by
    obtain ⟨he, n, os, hw⟩ := hh
    subst hw
    exact ⟨he, ⟨rfl, rfl, rfl, by simp [grow], fun k hk => by rw [heap_grow_old _ _ (by exact hk)]; rfl⟩⟩
end Go.Proofs.Ytlimmmidfhpakaa
namespace Go.Proofs.Ytlimmmidfhpakaa
open Go.RowKit Go.Sort Go.Shelf
set_option linter.unusedVariables false
set_option linter.unusedSimpArgs false
set_option maxRecDepth 100000
def sortW_ren : Go.Shelf.Ren := ⟨fun | 6 => 46 | 15 => 59 | 14 => 58 | 28 => 74 | 29 => 75 | 20 => 66 | 21 => 67 | 22 => 68 | 23 => 69 | 24 => 70 | 25 => 71 | 26 => 72 | 27 => 73 | 46 => 77 | 47 => 78 | 48 => 79 | 49 => 80 | 50 => 81 | 57 => 83 | n => n, fun | 22 => 47 | 24 => 27 | 25 => 87 | 3 => 3 | 39 => 95 | 0 => 0 | 53 => 111 | 55 => 113 | 4 => 4 | 46 => 105 | 45 => 104 | 50 => 63 | 5 => 5 | 9 => 9 | 66 => 115 | 70 => 119 | 76 => 122 | 77 => 123 | n => n, fun | n => n⟩
theorem sortW : Go.Proofs.SlLaysF0.n6 Try.prog sortW_ren where
  mixed := by kernel_rfl
  f6 := ⟨ "slices.SortFunc[[]canopy/api.Write,canopy/api.Write]", by decide, Try.func46.trans (congrArg some (by kernel_rfl))⟩
  f14 := ⟨ "slices.pdqsortCmpFunc[canopy/api.Write]", by decide, Try.func58.trans (congrArg some (by kernel_rfl))⟩
  f15 := Try.func59.trans (congrArg some (by kernel_rfl))
  f20 := ⟨ "slices.insertionSortCmpFunc[canopy/api.Write]", by decide, Try.func66.trans (congrArg some (by kernel_rfl))⟩
  f21 := ⟨ "slices.heapSortCmpFunc[canopy/api.Write]", by decide, Try.func67.trans (congrArg some (by kernel_rfl))⟩
  f22 := ⟨ "slices.breakPatternsCmpFunc[canopy/api.Write]", by decide, Try.func68.trans (congrArg some (by kernel_rfl))⟩
  f23 := ⟨ "slices.choosePivotCmpFunc[canopy/api.Write]", by decide, Try.func69.trans (congrArg some (by kernel_rfl))⟩
  f24 := ⟨ "slices.reverseRangeCmpFunc[canopy/api.Write]", by decide, Try.func70.trans (congrArg some (by kernel_rfl))⟩
  f25 := ⟨ "slices.partialInsertionSortCmpFunc[canopy/api.Write]", by decide, Try.func71.trans (congrArg some (by kernel_rfl))⟩
  f26 := ⟨ "slices.partitionEqualCmpFunc[canopy/api.Write]", by decide, Try.func72.trans (congrArg some (by kernel_rfl))⟩
  f27 := ⟨ "slices.partitionCmpFunc[canopy/api.Write]", by decide, Try.func73.trans (congrArg some (by kernel_rfl))⟩
  f28 := Try.func74.trans (congrArg some (by kernel_rfl))
  f29 := Try.func75.trans (congrArg some (by kernel_rfl))
  f46 := ⟨ "slices.siftDownCmpFunc[canopy/api.Write]", by decide, Try.func77.trans (congrArg some (by kernel_rfl))⟩
  f47 := Try.func78.trans (congrArg some (by kernel_rfl))
  f48 := Try.func79.trans (congrArg some (by kernel_rfl))
  f49 := ⟨ "slices.medianAdjacentCmpFunc[canopy/api.Write]", by decide, Try.func80.trans (congrArg some (by kernel_rfl))⟩
  f50 := ⟨ "slices.medianCmpFunc[canopy/api.Write]", by decide, Try.func81.trans (congrArg some (by kernel_rfl))⟩
  f57 := ⟨ "slices.order2CmpFunc[canopy/api.Write]", by decide, Try.func83.trans (congrArg some (by kernel_rfl))⟩
  t0 := Try.underlying0
  a0 := Try.isAgg0
  z0 := Try.sizeOf0
  v0 := Try.zeroValue0
  t3 := Try.underlying3
  a3 := Try.isAgg3
  z3 := Try.sizeOf3
  v3 := Try.zeroValue3
  t4 := Try.underlying4
  a4 := Try.isAgg4
  z4 := Try.sizeOf4
  v4 := Try.zeroValue4
  t5 := Try.underlying5
  a5 := Try.isAgg5
  z5 := Try.sizeOf5
  v5 := Try.zeroValue5
  t9 := Try.underlying9
  a9 := Try.isAgg9
  z9 := Try.sizeOf9
  v9 := Try.zeroValue9
  t22 := Try.underlying47
  a22 := Try.isAgg47
  z22 := Try.sizeOf47
  v22 := Try.zeroValue47
  t25 := Try.underlying87
  a25 := Try.isAgg87
  z25 := Try.sizeOf87
  v25 := Try.zeroValue87
  t39 := Try.underlying95
  a39 := Try.isAgg95
  z39 := Try.sizeOf95
  v39 := Try.zeroValue95
  t45 := Try.underlying104
  a45 := Try.isAgg104
  z45 := Try.sizeOf104
  v45 := Try.zeroValue104
  t46 := Try.underlying105
  a46 := Try.isAgg105
  z46 := Try.sizeOf105
  v46 := Try.zeroValue105
  t50 := Try.underlying63
  a50 := Try.isAgg63
  z50 := Try.sizeOf63
  v50 := Try.zeroValue63
  t53 := Try.underlying111
  a53 := Try.isAgg111
  z53 := Try.sizeOf111
  v53 := Try.zeroValue111
  t55 := Try.underlying113
  a55 := Try.isAgg113
  z55 := Try.sizeOf113
  v55 := Try.zeroValue113
  t66 := Try.underlying115
  a66 := Try.isAgg115
  z66 := Try.sizeOf115
  v66 := Try.zeroValue115
  t70 := Try.underlying119
  a70 := Try.isAgg119
  z70 := Try.sizeOf119
  v70 := Try.zeroValue119
  t76 := Try.underlying122
  a76 := Try.isAgg122
  z76 := Try.sizeOf122
  v76 := Try.zeroValue122
  t77 := Try.underlying123
  a77 := Try.isAgg123
  z77 := Try.sizeOf123
  v77 := Try.zeroValue123
/-- The cells of a write, and the write that they tell. -/
abbrev El (F : Fz) : Type := {x : List Value × Wr // WrC F x.1 x.2}
def encE {F : Fz} (x : El F) : List Value := x.1.1
def cfE {F : Fz} (x y : El F) : Int := cmpW x.1.2 y.1.2
theorem encE_len {F : Fz} (x : El F) : (encE x).length = 4 := by
  obtain ⟨⟨cs, p⟩, a0, a1, a2, a3, h, _⟩ := x
  simp only at h
  subst h
  rfl
theorem ltE {F : Fz} (x y : El F) : ltOf cfE x y = true ↔ LtW x.1.2 y.1.2 := by
  unfold ltOf cfE
  rw [decide_eq_true_iff, cmpW_lt]
theorem ltE_no {F : Fz} (x y : El F) : ltOf cfE x y = false ↔ ¬ LtW x.1.2 y.1.2 := by
  rw [← ltE, Bool.not_eq_true]
theorem LtW.split {a b c : Wr} (h : LtW a c) : LtW a b ∨ LtW b c := by
  rcases LtW.total a b with k | k | ⟨k1, k2⟩
  · exact .inl k
  · exact .inr (k.trans h)
  · refine .inr ?_
    unfold LtW at h ⊢
    rwa [← k1, ← k2]
theorem swoE {F : Fz} : SWO (ltOf (cfE (F := F))) where
  irrefl x := (ltE_no x x).2 (LtW.irrefl _)
  trans x y z h1 h2 := (ltE x z).2 (((ltE x y).1 h1).trans ((ltE y z).1 h2))
  ntrans x y z h1 h2 := (ltE_no x z).2 fun h => (h.split (b := y.1.2)).elim ((ltE_no x y).1 h1) ((ltE_no y z).1 h2)
theorem elemsE {F : Fz} : ∀ {el : List (List Value)} {l : List Wr}, AllR (WrC F) el l → ∃ ds : List (El F), ds.map encE = el ∧ ds.map (fun x => x.1.2) = l
  | [], [], _ => ⟨[], rfl, rfl⟩
  | x :: xs, p :: ps, h => by
    obtain ⟨ds, h1, h2⟩ := elemsE (el := xs) (l := ps) h.2
    exact ⟨⟨(x, p), h.1⟩ :: ds, by rw [List.map_cons, h1]; rfl, by rw [List.map_cons, h2]⟩
theorem elemsE_all {F : Fz} : ∀ ds : List (El F), AllR (WrC F) (ds.map encE) (ds.map fun x => x.1.2)
  | [] => trivial
  | x :: xs => ⟨x.2, elemsE_all xs⟩
theorem flat_len {α : Type} {enc : α → List Value} {k : Nat} (hk : ∀ x, (enc x).length = k) (ds : List α) : ((ds.map enc).flatten).length = ds.length * k := by
  rw [flatten_len (k := k) (fun x hx => by obtain ⟨y, _, rfl⟩ := List.mem_map.1 hx; exact hk y), List.length_map]
section
variable {α : Type} [Inhabited α] {enc : α → List Value} {k : Nat}
theorem flat_at (hk : ∀ x, (enc x).length = k) : ∀ (ds : List α) (t : Nat), t < ds.length * k → ((ds.map enc).flatten)[t]? = some (enc ds[t / k]!)[t % k]!
  | [], t, h => by simp at h
  | x :: xs, t, h => by
    rw [List.map_cons, List.flatten_cons, List.getElem?_append, hk]
    have k0 : 0 < k := by
      rcases Nat.eq_zero_or_pos k with e | e
      · subst e; simp at h
      · exact e
    split
    · rename_i ht
      rw [Nat.div_eq_of_lt ht, Nat.mod_eq_of_lt ht, List.getElem?_eq_getElem (by rw [hk]; exact ht)]
      simp [ht, hk]
    · rename_i ht
      have hu : t - k < xs.length * k := by rw [List.length_cons, Nat.add_mul, Nat.one_mul] at h; omega
      rw [flat_at hk xs (t - k) hu]
      have e1 : t / k = (t - k) / k + 1 := by rw [← Nat.add_div_right _ k0, Nat.sub_add_cancel (by omega)]
      have e2 : t % k = (t - k) % k := by rw [← Nat.add_mod_right (t - k) k, Nat.sub_add_cancel (by omega)]
      rw [e1, e2]
      simp
theorem flat_eq (hk : ∀ x, (enc x).length = k) (d : Array α) : flatK enc k d = ((d.toList.map enc).flatten).toArray := by
  refine ext_get! (by rw [size_flatK]; show d.size * k = ((d.toList.map enc).flatten).length; rw [flat_len hk]; rfl) fun t ht => ?_
  have ht' : t < d.size * k := by simpa using ht
  rw [get_flatK _ _ _ _ ht']
  have := flat_at hk d.toList t (by simpa using ht')
  have e : ∀ i, d.toList[i]! = d[i]! := fun i => by rw [List.getElem!_eq_getElem?_getD, Array.getElem!_eq_getD, Array.getD_eq_getD_getElem?, Array.getElem?_toList]
  rw [e] at this
  have e2 : ∀ xs : List Value, xs.toArray[t]! = (xs[t]?).getD default := fun xs => by rw [Array.getElem!_eq_getD, Array.getD_eq_getD_getElem?, List.getElem?_toArray]
  rw [e2, this]
  rfl
end
theorem setMany_all (F : Array Value) (vs : List Value) (h : vs.length = F.size) : setMany F 0 vs = vs.toArray := by
  refine ext_get! (by simp [h]) fun t ht => ?_
  have ht' : t < F.size := by simpa using ht
  rw [get_setMany vs 0 F t ht', if_pos ⟨Nat.zero_le _, by omega⟩]
  simp
theorem below_grow (w : World) (os : Array Obj) : Below w.heap.size w (grow w os) := ⟨rfl, rfl, rfl, by simp, fun k hk => heap_grow_old w os hk⟩
theorem sat_sortWorld {F : Fz} {α : Type} [Inhabited α] {enc : α → List Value} {k : Nat} {w : World} {g off m : Nat} {dk : Array α} {os : Array Obj} (hs : Sat w F) (hg : F g = none) : Sat (sortWorldK enc k w g off m dk os) F := by
  intro b o hb
  have hne : g ≠ b := fun e => by subst e; rw [hg] at hb; cases hb
  have hlt := hs.lt hb
  unfold sortWorldK
  rw [heap_grow_old _ _ (by rw [size_putRowK]; exact hlt)]
  show ((w.heap.modify g _)[b]?) = _
  rw [Array.getElem?_modify, if_neg hne]
  exact hs b o hb
set_option maxHeartbeats 4000000 in
theorem sortW_own {g cap : Nat} {w0 w : World} {F0 F : Fz} {L0 : List Blk} {M0 : List RowP} {l : List Wr}
    (S : St w0 F0 w F L0 (ownP 4 WrC WrC.mono 27 w0.heap.size (.slice (some ⟨g, 0, none⟩) l.length cap) l :: M0)) (hne : l ≠ []) (hl : l.length ≤ 100000000) :
    Calls Try.prog 46 #[.slice (some ⟨g, 0, none⟩) l.length cap, .func (.func 47) #[] #[]] w fun e w' => e = .returned (.tuple #[]) ∧
      ∃ l', l'.Perm l ∧ l'.Pairwise (fun x y => ¬ LtW y x) ∧ St w0 F0 w' F L0 (ownP 4 WrC WrC.mono 27 w0.heap.size (.slice (some ⟨g, 0, none⟩) l'.length cap) l' :: M0) := by
  obtain ⟨c, el, S1, hn, hcp, hmx, hcl, htk, hall, hlen, hbg⟩ := St.rowBlk (r := 0) S rfl
  have S1 : St w0 F0 w F (⟨g, c, 27⟩ :: L0) M0 := S1
  obtain ⟨ds, hd1, hd2⟩ := elemsE hall
  have hdl : ds.length = l.length := by rw [← hd2, List.length_map]
  have hds : ds ≠ [] := by rintro rfl; exact hne (by rw [← hd2]; rfl)
  obtain ⟨x0, hx0⟩ := List.exists_mem_of_ne_nil ds hds
  letI : Inhabited (El F) := ⟨x0⟩
  obtain ⟨b1, b2, b3⟩ := S1.blk _ (List.mem_cons_self ..)
  simp only at b1 b2 b3
  have hfl : flatK encE 4 ds.toArray = (el.flatten).toArray := by rw [flat_eq encE_len]; simp [hd1]
  have hH : HoldsK encE 4 w g 0 ds.toArray := by
    unfold HoldsK
    rw [hfl]
    intro j hj
    have hj' : j < el.flatten.length := by simpa using hj
    refine ⟨?_, by simp [World.frozen?, b1]⟩
    have hv : c[j]? = some el.flatten[j] := by
      have : (c.take (l.length * 4))[j]? = some el.flatten[j] := by rw [htk]; exact List.getElem?_eq_getElem hj'
      rw [List.getElem?_take] at this
      split at this
      · exact this
      · cases this
    have := St.cell S1 (i := 0) rfl hv
    rw [Nat.zero_add]
    rw [this]
    simp only [Nat.zero_add, id]
    rw [Array.getElem!_eq_getD, Array.getD_eq_getD_getElem?, List.getElem?_toArray, List.getElem?_eq_getElem hj']
    rfl
  have hcon := AnyQ.slices_SortFunc (P := Try.prog) (ρ := sortW_ren) sortW 4 (fun _ => by kernel_rfl) (fun _ => by kernel_rfl) (encE (F := F)) encE_len (fun x => WrC.oneCell x.2) cfE swoE 47 #[] g 0 cap ds.toArray w
    (ent_47) (fun m os dk _ x y => compare_x F _ _ _ _ _ (sat_sortWorld S.sat b2) x.2 y.2) hH (S1.blk_lt (List.mem_cons_self ..)) (by simp; omega)
  change Calls Try.prog 46 _ _ _ at hcon
  rw [show ds.toArray.size = l.length from by simp [hdl]] at hcon
  refine hcon.mono fun e w' hh => ?_
  obtain ⟨rfl, d', n, os, hp, hsd, rfl⟩ := hh
  refine And.intro rfl ?_
  obtain ⟨hp1, _, hp3⟩ := hp
  have hsz : d'.size = l.length := by rw [hp1]; simp [hdl]
  have hperm : d'.toList.Perm ds := by
    have e1 : (d'.extract 0 l.length).toList = d'.toList := by rw [← hsz]; simp
    have e2 : (ds.toArray.extract 0 l.length).toList = ds := by rw [← hdl]; simp
    rwa [e1, e2] at hp3
  have hvl : ((d'.toList.map encE).flatten).length = l.length * 4 := by rw [flat_len encE_len]; simp [hsz]
  have hst : putRowK encE 4 (Sort.ahead w n) g 0 d' = (Sort.ahead w n).setCells g 0 ((d'.toList.map encE).flatten) := by
    have h1 : putRow id (Sort.ahead w n) g 0 (flatK encE 4 ds.toArray) = Sort.ahead w n := putRow_self id _ g 0 _ (holdsK_ahead encE 4 w n g 0 _ hH)
    have h2 := setCells_putRow (Sort.ahead w n) g 0 ((d'.toList.map encE).flatten) 0 (flatK encE 4 ds.toArray) (by rw [hvl, size_flatK]; simp [hdl])
    rw [h1, setMany_all _ _ (by rw [hvl, size_flatK]; simp [hdl])] at h2
    unfold putRowK
    rw [flat_eq encE_len]
    exact h2.symm
  have S2 : St w0 F0 (Sort.ahead w n) F (⟨g, c, 27⟩ :: L0) M0 := S1.tells ⟨rfl, rfl, rfl, Nat.le_refl _, fun _ _ => rfl⟩
  have S3 := S2.store (i := 0) rfl 0 ((d'.toList.map encE).flatten) (by rw [hvl, hcl]; omega)
  have S4 := S3.tells (below_grow _ os)
  have hw : sortWorldK encE 4 w g 0 n d' os = grow ((Sort.ahead w n).setCells g 0 ((d'.toList.map encE).flatten)) os := by unfold sortWorldK; rw [hst]
  rw [hw]
  have hl' : (d'.toList.map fun x => x.1.2).length = l.length := by simp [hsz]
  refine ⟨d'.toList.map fun x => x.1.2, ?_, ?_, ?_⟩
  · rw [← hd2]; exact hperm.map _
  · rw [List.pairwise_map, List.pairwise_iff_getElem]
    intro i j hi hj hij
    have hi' : i < d'.size := by simpa using hi
    have hj' : j < d'.size := by simpa using hj
    have := hsd i j (Nat.zero_le _) hij (by omega)
    rw [ltE_no, getElem!_pos d' i hi', getElem!_pos d' j hj'] at this
    simpa using this
  · refine St.blkRow (k := 4) (el := d'.toList.map encE) (c := splice c 0 ((d'.toList.map encE).flatten)) S4 ?_ (elemsE_all _) (fun x hx => by obtain ⟨y, _, rfl⟩ := List.mem_map.1 hx; exact encE_len y) ?_ (by omega) hmx b3
    · rw [hl', ← hvl]
      unfold splice
      simp
    · rw [splice_len (by rw [hvl, hcl]; omega), hcl]
end Go.Proofs.Ytlimmmidfhpakaa
namespace Go.Proofs.Ytlimmmidfhpakaa
open Go.RowKit
set_option maxRecDepth 100000
set_option linter.unusedVariables false
set_option linter.unusedSimpArgs false
theorem wr_at {E base : Nat} {w : World} {F : Fz} {l : List Wr} {a : Option Addr} {n c : Nat} (h : Own 4 WrC E base w F (.slice a n c) l) {i : Nat} {p : Wr} (hp : l[i]? = some p) :
    ∃ g, a = some ⟨g, 0, none⟩ ∧ ∃ xa xc ya yc za zc, w.cell? ⟨g, 0 + i * 4, none⟩ = some (.slice xa p.name.length xc) ∧ w.cell? ⟨g, 0 + i * 4 + 1, none⟩ = some (.slice ya p.key.length yc) ∧ w.cell? ⟨g, 0 + i * 4 + 2, none⟩ = some (.bool p.gone) ∧ w.cell? ⟨g, 0 + i * 4 + 3, none⟩ = some (.slice za p.value.length zc) ∧ Bs F (.slice xa p.name.length xc) p.name ∧ Bs F (.slice ya p.key.length yc) p.key ∧ Bs F (.slice za p.value.length zc) p.value := by
  obtain ⟨g, cs, e, _, ⟨x, y, b, z, rfl, r1, r2, rfl, r3⟩, hr⟩ := h.at hp
  obtain ⟨xa, xc, rfl, _⟩ := r1.shape
  obtain ⟨ya, yc, rfl, _⟩ := r2.shape
  obtain ⟨za, zc, rfl, _⟩ := r3.shape
  refine ⟨g, e, xa, xc, ya, yc, za, zc, ?_, ?_, ?_, ?_, r1, r2, r3⟩
  · have := hr 0 _ rfl; rw [Nat.zero_add]; simpa using this
  · have := hr 1 _ rfl; rw [Nat.zero_add]; simpa using this
  · have := hr 2 _ rfl; rw [Nat.zero_add]; simpa using this
  · have := hr 3 _ rfl; rw [Nat.zero_add]; simpa using this
theorem zeros_len (z : Array Value) (n : Nat) : (Builtin.zeroCells z n).toList.length = n * z.size := by simp [Builtin.zeroCells]
theorem zeros_one {z : Array Value} {n : Nat} (h : ∀ i, i < z.size → (z[i]!).oneCell' = true) : ∀ u ∈ (Builtin.zeroCells z n).toList, u.oneCell' = true := by
  intro u hu
  simp only [Builtin.zeroCells, Array.toList_map, List.mem_map] at hu
  obtain ⟨i, hi, rfl⟩ := hu
  have hi' : i < n * z.size := by simpa using hi
  refine h _ (Nat.mod_lt _ ?_)
  rcases Nat.eq_zero_or_pos z.size with e | e
  · rw [e] at hi'; simp at hi'
  · exact e
/-- 'clear(row[i:])': what is left ahead of i is the row. -/
theorem stClearRow {P : Program} {w0 w : World} {F0 F : Fz} {L : List Blk} {M : List RowP} {α : Type} {k base E : Nat} {R : Fz → List Value → α → Prop} {hR : ∀ F F' x p, Le F F' → R F x p → R F' x p} {l : List α} {ops : Array Oper} {Q : Exit → Act → World → Prop} {a : Act} {rest : List Oper} {d : Option Tmp} {t sT elem : TypeId} {x : Operand} {pos : String} {after : Array Edge} {guard : Option (Nat × Bool)} {i g j cap cp : Nat} (z : Value)
    (S : St w0 F0 w F L (ownP k R hR E base (.slice (some ⟨g, 0, none⟩) l.length cap) l :: M)) (hb : w0.heap.size ≤ base)
    (hw : Region.wanted ⟨d, .call ⟨.builtin .clear, #[x], #[sT]⟩, t, pos, after, guard⟩ (yielded ops a.tmps) = true) (hu : P.underlying sT = some (.slice elem)) (hv : ∀ w, (zeroValue elem).run P w = .ok z w) (hz : z.cells.size = k) (h1 : ∀ i, i < z.cells.size → (z.cells[i]!).oneCell' = true)
    (hx : a.eval x = .slice (some ⟨g, j, none⟩) (l.length - i) cp) (hj : j = i * k) (hi : i < l.length)
    (h : ∀ w', St w0 F0 w' F L (ownP k R hR E base (.slice (some ⟨g, 0, none⟩) i cap) (l.take i) :: M) → WL P ops Q rest (a.put d (.tuple #[])) w') : WL P ops Q (⟨d, .call ⟨.builtin .clear, #[x], #[sT]⟩, t, pos, after, guard⟩ :: rest) a w := by
  obtain ⟨c, el, S1, hn, hcp, hmx, hcl, htk, hall, hlen, hbg⟩ := St.rowBlk (r := 0) S rfl
  have S1 : St w0 F0 w F (⟨g, c, E⟩ :: L) M := S1
  subst hj
  have hzl : (Builtin.zeroCells z.cells (l.length - i)).toList.length = (l.length - i) * k := by rw [zeros_len, hz]
  have hmul : i * k + (l.length - i) * k = l.length * k := by rw [← Nat.add_mul]; congr 1; omega
  have hmul2 : l.length * k ≤ cap * k := Nat.mul_le_mul_right k hcp
  refine stClear (i := 0) (n := l.length - i) z _ S1 hw hu hv rfl hx (by omega) rfl (by rw [hzl, hcl]; omega) (zeros_one h1) (fun w' S2 => h w' ?_)
  have S2 : St w0 F0 w' F (⟨g, splice c (i * k) (Builtin.zeroCells z.cells (l.length - i)).toList, E⟩ :: L) M := S2
  have hll : (l.take i).length = i := by rw [List.length_take]; omega
  have hrow := St.blkRow (k := k) (base := base) (R := R) (hR := hR) (l := l.take i) (cap := cap) S2 (el := el.take i) ?_ (hall.take i) (fun y hy => hlen y (List.mem_of_mem_take hy)) (by rw [splice_len (by rw [hzl, hcl]; omega), hcl]) (by omega) hmx hbg
  · rw [hll] at hrow
    exact hrow
  · rw [hll]
    have e1 : (splice c (i * k) (Builtin.zeroCells z.cells (l.length - i)).toList).take (i * k) = c.take (i * k) := by
      unfold splice
      rw [List.append_assoc, List.take_append_of_le_length (by rw [List.length_take]; omega), List.take_take, Nat.min_self]
    rw [e1]
    have e2 : c.take (i * k) = (c.take (l.length * k)).take (i * k) := by rw [List.take_take, Nat.min_eq_left (by omega)]
    rw [e2, htk]
    have e3 : (el.take i).flatten.length = i * k := by
      rw [flatten_len (k := k) (fun y hy => hlen y (List.mem_of_mem_take hy)), List.length_take, hall.len]
      congr 1; omega
    have e4 : el.flatten = (el.take i).flatten ++ (el.drop i).flatten := by rw [← List.flatten_append, List.take_append_drop]
    rw [e4, List.take_append_of_le_length (by rw [e3]; exact Nat.le_refl _), ← e3, List.take_length]
set_option maxHeartbeats 8000000 in
theorem same_yes (F : Fz) (w : World) (cs ds : List Value) (p q : Wr) (hs : Sat w F) (hp : WrC F cs p) (hq : WrC F ds q) (hc : cmpW p q = 0) :
    Calls Try.prog 49 #[.agg cs.toArray, .agg ds.toArray] w (Tells w (.bool true)) := by
 obtain ⟨_, _, _, _, rfl, h0, h1, rfl, h3⟩ := hp
 obtain ⟨x0, y0, rfl, _⟩ := h0.shape
 obtain ⟨x1, y1, rfl, _⟩ := h1.shape
 obtain ⟨x3, y3, rfl, _⟩ := h3.shape
 obtain ⟨_, _, _, _, rfl, k0, k1, rfl, k3⟩ := hq
 obtain ⟨x0q, y0q, rfl, _⟩ := k0.shape
 obtain ⟨x1q, y1q, rfl, _⟩ := k1.shape
 obtain ⟨x3q, y3q, rfl, _⟩ := k3.shape
 have S := St.start hs
 go_enter Try.func49, Try.ntmps49
 refine wp_seq_k (fun K1 hK1 => region_wl ?_)
 refine stNew S (v := fun n => .pointer (some ⟨n, 0, none⟩)) rfl (ex_box (v := (.agg #[(.slice x0 p.name.length y0), (.slice x1 p.key.length y1), (.bool p.gone), (.slice x3 p.value.length y3)])) rfl) (fun n2 w3 S4 => ?_)
 simp only [pS, pN, pA, pC, pZ]
 have S4 : St w F w3 F [⟨n2, [(.slice x0 p.name.length y0), (.slice x1 p.key.length y1), (.bool p.gone), (.slice x3 p.value.length y3)], 27⟩] [] := S4
 refine stNew S4 (v := fun n => .pointer (some ⟨n, 0, none⟩)) rfl (ex_box (v := (.agg #[(.slice x0q q.name.length y0q), (.slice x1q q.key.length y1q), (.bool q.gone), (.slice x3q q.value.length y3q)])) rfl) (fun n5 w6 S7 => ?_)
 simp only [pS, pN, pA, pC, pZ]
 have S7 : St w F w6 F [⟨n5, [(.slice x0q q.name.length y0q), (.slice x1q q.key.length y1q), (.bool q.gone), (.slice x3q q.value.length y3q)], 27⟩, ⟨n2, [(.slice x0 p.name.length y0), (.slice x1 p.key.length y1), (.bool p.gone), (.slice x3 p.value.length y3)], 27⟩] [] := S7
 refine do_ rfl (.bool false) (ex_assign _) ?_
 simp only [pS, pN, pA, pC, pZ]
 refine wl_nil (hK1 _ _ ?_)
 refine wp_seq_k (fun K8 hK8 => region_wl ?_)
 refine do_ rfl (.agg #[(.slice x0 p.name.length y0), (.slice x1 p.key.length y1), (.bool p.gone), (.slice x3 p.value.length y3)]) (ex_load rfl (loadN (cs := [(.slice x0 p.name.length y0), (.slice x1 p.key.length y1), (.bool p.gone), (.slice x3 p.value.length y3)]) Try.underlying27 rfl (size_27) (St.range S7 (i := 1) rfl 0 [(.slice x0 p.name.length y0), (.slice x1 p.key.length y1), (.bool p.gone), (.slice x3 p.value.length y3)] (sub_range 0 rfl)))) ?_
 simp only [pS, pN, pA, pC, pZ]
 refine do_ rfl (.agg #[(.slice x0q q.name.length y0q), (.slice x1q q.key.length y1q), (.bool q.gone), (.slice x3q q.value.length y3q)]) (ex_load rfl (loadN (cs := [(.slice x0q q.name.length y0q), (.slice x1q q.key.length y1q), (.bool q.gone), (.slice x3q q.value.length y3q)]) Try.underlying27 rfl (size_27) (St.range S7 (i := 0) rfl 0 [(.slice x0q q.name.length y0q), (.slice x1q q.key.length y1q), (.bool q.gone), (.slice x3q q.value.length y3q)] (sub_range 0 rfl)))) ?_
 simp only [pS, pN, pA, pC, pZ]
 refine stTells (v := (.int .i64 (cmpW p q))) S7 rfl (ex_fn (vs := #[(.agg #[(.slice x0 p.name.length y0), (.slice x1 p.key.length y1), (.bool p.gone), (.slice x3 p.value.length y3)]), (.agg #[(.slice x0q q.name.length y0q), (.slice x1q q.key.length y1q), (.bool q.gone), (.slice x3q q.value.length y3q)])]) (map2 rfl rfl) rfl (ent_47 _ _)) (compare_spec2 _ _ _ _ p q (S7).sat ⟨_, _, _, _, rfl, h0, h1, rfl, h3⟩ ⟨_, _, _, _, rfl, k0, k1, rfl, k3⟩) (fun w9 S10 => ?_)
 simp only [pS, pN, pA, pC, pZ]
 refine do_ rfl (.bool true) (ex_eql (m := (cmpW p q)) (n := (0 : Int)) (b := true) rfl rfl (beq_iff_eq.2 (hc))) ?_
 simp only [pS, pN, pA, pC, pZ]
 refine do_ rfl (.bool true) (ex_assign _) ?_
 simp only [pS, pN, pA, pC, pZ]
 refine wl_nil (hK8 _ _ ?_)
 refine wp_ret ?_
 (try simp only [Exit.then, Exit.inBlock, ↓reduceIte, Nat.reduceEqDiff])
 refine bodyPost_ret (v := (.bool true)) ?_ rfl ?_
 ·exact res_t rfl rfl
 ·exact ⟨rfl, S10.gr.below⟩
set_option maxHeartbeats 8000000 in
theorem same_no (F : Fz) (w : World) (cs ds : List Value) (p q : Wr) (hs : Sat w F) (hp : WrC F cs p) (hq : WrC F ds q) (hc : ¬ cmpW p q = 0) :
    Calls Try.prog 49 #[.agg cs.toArray, .agg ds.toArray] w (Tells w (.bool false)) := by
 obtain ⟨_, _, _, _, rfl, h0, h1, rfl, h3⟩ := hp
 obtain ⟨x0, y0, rfl, _⟩ := h0.shape
 obtain ⟨x1, y1, rfl, _⟩ := h1.shape
 obtain ⟨x3, y3, rfl, _⟩ := h3.shape
 obtain ⟨_, _, _, _, rfl, k0, k1, rfl, k3⟩ := hq
 obtain ⟨x0q, y0q, rfl, _⟩ := k0.shape
 obtain ⟨x1q, y1q, rfl, _⟩ := k1.shape
 obtain ⟨x3q, y3q, rfl, _⟩ := k3.shape
 have S := St.start hs
 go_enter Try.func49, Try.ntmps49
 refine wp_seq_k (fun K1 hK1 => region_wl ?_)
 refine stNew S (v := fun n => .pointer (some ⟨n, 0, none⟩)) rfl (ex_box (v := (.agg #[(.slice x0 p.name.length y0), (.slice x1 p.key.length y1), (.bool p.gone), (.slice x3 p.value.length y3)])) rfl) (fun n2 w3 S4 => ?_)
 simp only [pS, pN, pA, pC, pZ]
 have S4 : St w F w3 F [⟨n2, [(.slice x0 p.name.length y0), (.slice x1 p.key.length y1), (.bool p.gone), (.slice x3 p.value.length y3)], 27⟩] [] := S4
 refine stNew S4 (v := fun n => .pointer (some ⟨n, 0, none⟩)) rfl (ex_box (v := (.agg #[(.slice x0q q.name.length y0q), (.slice x1q q.key.length y1q), (.bool q.gone), (.slice x3q q.value.length y3q)])) rfl) (fun n5 w6 S7 => ?_)
 simp only [pS, pN, pA, pC, pZ]
 have S7 : St w F w6 F [⟨n5, [(.slice x0q q.name.length y0q), (.slice x1q q.key.length y1q), (.bool q.gone), (.slice x3q q.value.length y3q)], 27⟩, ⟨n2, [(.slice x0 p.name.length y0), (.slice x1 p.key.length y1), (.bool p.gone), (.slice x3 p.value.length y3)], 27⟩] [] := S7
 refine do_ rfl (.bool false) (ex_assign _) ?_
 simp only [pS, pN, pA, pC, pZ]
 refine wl_nil (hK1 _ _ ?_)
 refine wp_seq_k (fun K8 hK8 => region_wl ?_)
 refine do_ rfl (.agg #[(.slice x0 p.name.length y0), (.slice x1 p.key.length y1), (.bool p.gone), (.slice x3 p.value.length y3)]) (ex_load rfl (loadN (cs := [(.slice x0 p.name.length y0), (.slice x1 p.key.length y1), (.bool p.gone), (.slice x3 p.value.length y3)]) Try.underlying27 rfl (size_27) (St.range S7 (i := 1) rfl 0 [(.slice x0 p.name.length y0), (.slice x1 p.key.length y1), (.bool p.gone), (.slice x3 p.value.length y3)] (sub_range 0 rfl)))) ?_
 simp only [pS, pN, pA, pC, pZ]
 refine do_ rfl (.agg #[(.slice x0q q.name.length y0q), (.slice x1q q.key.length y1q), (.bool q.gone), (.slice x3q q.value.length y3q)]) (ex_load rfl (loadN (cs := [(.slice x0q q.name.length y0q), (.slice x1q q.key.length y1q), (.bool q.gone), (.slice x3q q.value.length y3q)]) Try.underlying27 rfl (size_27) (St.range S7 (i := 0) rfl 0 [(.slice x0q q.name.length y0q), (.slice x1q q.key.length y1q), (.bool q.gone), (.slice x3q q.value.length y3q)] (sub_range 0 rfl)))) ?_
 simp only [pS, pN, pA, pC, pZ]
 refine stTells (v := (.int .i64 (cmpW p q))) S7 rfl (ex_fn (vs := #[(.agg #[(.slice x0 p.name.length y0), (.slice x1 p.key.length y1), (.bool p.gone), (.slice x3 p.value.length y3)]), (.agg #[(.slice x0q q.name.length y0q), (.slice x1q q.key.length y1q), (.bool q.gone), (.slice x3q q.value.length y3q)])]) (map2 rfl rfl) rfl (ent_47 _ _)) (compare_spec2 _ _ _ _ p q (S7).sat ⟨_, _, _, _, rfl, h0, h1, rfl, h3⟩ ⟨_, _, _, _, rfl, k0, k1, rfl, k3⟩) (fun w9 S10 => ?_)
 simp only [pS, pN, pA, pC, pZ]
 refine do_ rfl (.bool false) (ex_eql (m := (cmpW p q)) (n := (0 : Int)) (b := false) rfl rfl (beq_eq_false_iff_ne.2 (hc))) ?_
 simp only [pS, pN, pA, pC, pZ]
 refine do_ rfl (.bool false) (ex_assign _) ?_
 simp only [pS, pN, pA, pC, pZ]
 refine wl_nil (hK8 _ _ ?_)
 refine wp_ret ?_
 (try simp only [Exit.then, Exit.inBlock, ↓reduceIte, Nat.reduceEqDiff])
 refine bodyPost_ret (v := (.bool false)) ?_ rfl ?_
 ·exact res_t rfl rfl
 ·exact ⟨rfl, S10.gr.below⟩
set_option maxHeartbeats 8000000 in
theorem compactShort {w0 w : World} {F0 F : Fz} {L0 : List Blk} {M0 : List RowP} {l : List Wr} {v : Value}
    (S : St w0 F0 w F L0 (ownP 4 WrC WrC.mono 27 w0.heap.size v l :: M0)) (hl : l.length ≤ 1000000) (h2 : l.length < 2) :
    Calls Try.prog 48 #[v, .func (.func 49) #[] #[]] w fun e w' => ∃ v', e = .returned v' ∧ St w0 F0 w' F L0 (ownP 4 WrC WrC.mono 27 w0.heap.size v' (compactW l) :: M0) := by
 obtain ⟨a, c, rfl, hc1, hc2⟩ := (S.own (i := 0) rfl).shape
 go_enter Try.func48, Try.ntmps48
 refine wp_seq_k (fun K1 hK1 => region_wl ?_)
 refine do_ rfl (.slice none 0 0) (ex_assign _) ?_
 simp only [pS, pN, pA, pC, pZ]
 refine wl_nil (hK1 _ _ ?_)
 refine wp_seq_k (fun K2 hK2 => ?_)
 refine wp_seq_k (fun K3 hK3 => region_wl ?_)
 refine do_ rfl (.slice a l.length c) (ex_move _) ?_
 simp only [pS, pN, pA, pC, pZ]
 refine do_ rfl (.int .i64 ((l.length : Nat) : Int)) (ex_len Try.underlying47 rfl) ?_
 simp only [pS, pN, pA, pC, pZ]
 refine do_ rfl (.bool true) (ex_lss (m := ((l.length : Nat) : Int)) (n := (2 : Int)) (b := true) rfl rfl (decide_eq_true (by omega))) ?_
 simp only [pS, pN, pA, pC, pZ]
 refine wl_nil (hK3 _ _ ?_)
 refine wp_cond_true rfl ?_
 refine wp_seq_k (fun K4 hK4 => region_wl ?_)
 refine do_ rfl (.slice a l.length c) (ex_move _) ?_
 simp only [pS, pN, pA, pC, pZ]
 refine do_ rfl (.slice a l.length c) (ex_assign _) ?_
 simp only [pS, pN, pA, pC, pZ]
 refine wl_nil (hK4 _ _ ?_)
 refine wp_ret ?_
 (try simp only [Exit.then, Exit.inBlock, ↓reduceIte, Nat.reduceEqDiff])
 refine bodyPost_ret (v := (.slice a l.length c)) ?_ rfl ?_
 ·exact res_t rfl rfl
 ·rw [compact_short h2]
  exact ⟨_, rfl, S⟩
set_option maxHeartbeats 8000000 in
theorem compactLong {w0 w : World} {F0 F : Fz} {L0 : List Blk} {M0 : List RowP} {l : List Wr} {g cap : Nat}
    (S : St w0 F0 w F L0 (ownP 4 WrC WrC.mono 27 w0.heap.size (.slice (some ⟨g, 0, none⟩) l.length cap) l :: M0)) (hl : l.length ≤ 1000000) (h2 : ¬ l.length < 2) :
    Calls Try.prog 48 #[.slice (some ⟨g, 0, none⟩) l.length cap, .func (.func 49) #[] #[]] w fun e w' => ∃ v', e = .returned v' ∧ St w0 F0 w' F L0 (ownP 4 WrC WrC.mono 27 w0.heap.size v' (compactW l) :: M0) := by
 obtain ⟨_, _, e_, hc1, hc2⟩ := (S.own (i := 0) rfl).shape
 unfold maxLen at hc2
 injection e_ with _ _ e_
 subst e_
 go_enter Try.func48, Try.ntmps48
 refine wp_seq_k (fun K1 hK1 => region_wl ?_)
 refine do_ rfl (.slice none 0 0) (ex_assign _) ?_
 simp only [pS, pN, pA, pC, pZ]
 refine wl_nil (hK1 _ _ ?_)
 refine wp_seq_k (fun K2 hK2 => ?_)
 refine wp_seq_k (fun K3 hK3 => region_wl ?_)
 refine do_ rfl (.slice (some ⟨g, 0, none⟩) l.length cap) (ex_move _) ?_
 simp only [pS, pN, pA, pC, pZ]
 refine do_ rfl (.int .i64 ((l.length : Nat) : Int)) (ex_len Try.underlying47 rfl) ?_
 simp only [pS, pN, pA, pC, pZ]
 refine do_ rfl (.bool false) (ex_lss (m := ((l.length : Nat) : Int)) (n := (2 : Int)) (b := false) rfl rfl (decide_eq_false (by omega))) ?_
 simp only [pS, pN, pA, pC, pZ]
 refine wl_nil (hK3 _ _ ?_)
 refine wp_cond_false rfl ?_
 refine wp_skip ?_
 refine hK2 _ _ ?_
 refine wp_seq_k (fun K4 hK4 => ?_)
 refine wp_seq_k (fun K5 hK5 => region_wl ?_)
 refine do_ rfl (.int .i64 1) (ex_assign _) ?_
 simp only [pS, pN, pA, pC, pZ]
 refine wl_nil (hK5 _ _ ?_)
 refine wp_block ?_
 refine wp_loop_g (fun mm aa w7 => ∃ (i : Nat) (u6 : Nat → Value), mm = l.length - i ∧ u6 = slots aa ∧ aa = ⟨#[(.slice (some ⟨g, 0, none⟩) l.length cap), (.func (.func 49) #[] #[]), undef, undef, (u6 4), (.int .i64 ((i : Nat) : Int)), (u6 6), (u6 7), (.slice (some ⟨g, 0, none⟩) l.length cap), (.int .i64 ((l.length : Nat) : Int)), (.bool false), undef, (u6 12), (u6 13), (u6 14), (u6 15), (u6 16), (u6 17), (u6 18), (u6 19), (u6 20), (u6 21), (u6 22), (u6 23), (u6 24), (u6 25), (u6 26), (u6 27), (u6 28), (u6 29), (u6 30), (u6 31), (u6 32), (u6 33), (u6 34), (u6 35), (u6 36), (u6 37), (u6 38), (u6 39), (u6 40), (u6 41), (u6 42), (u6 43), (u6 44), (u6 45), (u6 46), (u6 47), (u6 48), (u6 49), (u6 50), (u6 51), (u6 52), (u6 53), (u6 54), (u6 55), (u6 56), (u6 57), (u6 58), (u6 59), (u6 60), (u6 61), (u6 62), (u6 63), (u6 64), undef], []⟩ ∧ St w0 F0 w7 F (L0) (ownP 4 WrC WrC.mono 27 w0.heap.size (.slice (some ⟨g, 0, none⟩) l.length cap) l :: M0) ∧ (1 ≤ i) ∧ (i ≤ l.length) ∧ (compactW (l.take i) = l.take i)) _ ⟨1, _, rfl, rfl, rfl, S, (by omega), (by omega), (compact_short (by rw [List.length_take]; omega))⟩ ?_
 rintro m8 a9 w10 ⟨i, u6, rfl, -, rfl, S11, hi1, hi2, hci⟩ K13 hK13
 refine wp_seq_k (fun K14 hK14 => ?_)
 refine wp_seq_k (fun K15 hK15 => region_wl ?_)
 refine do_ rfl (.int .i64 ((i : Nat) : Int)) (ex_move _) ?_
 simp only [pS, pN, pA, pC, pZ]
 refine do_ rfl (.slice (some ⟨g, 0, none⟩) l.length cap) (ex_move _) ?_
 simp only [pS, pN, pA, pC, pZ]
 refine do_ rfl (.int .i64 ((l.length : Nat) : Int)) (ex_len Try.underlying47 rfl) ?_
 simp only [pS, pN, pA, pC, pZ]
 by_cases hc15 : i < l.length
 ·refine do_ rfl (.bool true) (ex_lss (m := ((i : Nat) : Int)) (n := ((l.length : Nat) : Int)) (b := true) rfl rfl (decide_eq_true (by omega))) ?_
  simp only [pS, pN, pA, pC, pZ]
  refine wl_nil (hK15 _ _ ?_)
  refine wp_cond_true rfl ?_
  refine wp_skip ?_
  refine hK14 _ _ ?_
  refine wp_seq_k (fun K16 hK16 => ?_)
  refine wp_block ?_
  refine wp_seq_k (fun K17 hK17 => ?_)
  obtain ⟨p, hp⟩ : ∃ p, l[i]? = some p := ⟨l[i], List.getElem?_eq_getElem (by omega)⟩
  obtain ⟨q, hq⟩ : ∃ q, l[i - 1]? = some q := ⟨l[i - 1], List.getElem?_eq_getElem (by omega)⟩
  obtain ⟨g18, ha19, xa21, xc22, xa25, xc26, xa30, xc31, c20, c24, c28, c29, r23, r27, r32⟩ := wr_at (S11.own (i := 0) rfl) hp
  injection ha19 with ha19; injection ha19 with ha19; subst ha19
  obtain ⟨g33, ha34, xa36, xc37, xa40, xc41, xa45, xc46, c35, c39, c43, c44, r38, r42, r47⟩ := wr_at (S11.own (i := 0) rfl) hq
  injection ha34 with ha34; injection ha34 with ha34; subst ha34
  by_cases hc28 : cmpW p q = 0
  ·refine region_gw F 10 [] (by kernel_rfl) (by kernel_rfl) ?_
   simp only [List.take_succ_cons, List.take_zero]
   refine gw_pure rfl rfl (.func (.func 49) #[] #[]) (fun w48 hCw48 => pureAt_of (ex_move _)) ?_
   simp only [pS, pN, pA, pC, pZ]
   refine gw_pure rfl rfl (.slice (some ⟨g, 0, none⟩) l.length cap) (fun w48 hCw48 => pureAt_of (ex_move _)) ?_
   simp only [pS, pN, pA, pC, pZ]
   refine gw_pure rfl rfl (.int .i64 ((i : Nat) : Int)) (fun w48 hCw48 => pureAt_of (ex_move _)) ?_
   simp only [pS, pN, pA, pC, pZ]
   refine gw_pure rfl rfl (.pointer (some ⟨g, 0 + i * 4, none⟩)) (fun w48 hCw48 => pureAt_of (ex_at (i := i) (sz := 4) Try.underlying47 (sizeof_27 _) rfl rfl rfl (by omega) rfl)) ?_
   simp only [pS, pN, pA, pC, pZ]
   refine gw_pure rfl rfl (.agg #[(.slice xa21 p.name.length xc22), (.slice xa25 p.key.length xc26), (.bool p.gone), (.slice xa30 p.value.length xc31)]) (fun w48 hCw48 => pureAt_of (ex_load rfl (loadN (cs := [(.slice xa21 p.name.length xc22), (.slice xa25 p.key.length xc26), (.bool p.gone), (.slice xa30 p.value.length xc31)]) Try.underlying27 rfl (size_27) (range4 (cell_kept hCw48 c20) (cell_kept hCw48 c24) (cell_kept hCw48 c28) (cell_kept hCw48 c29))))) ?_
   simp only [pS, pN, pA, pC, pZ]
   refine gw_pure rfl rfl (.slice (some ⟨g, 0, none⟩) l.length cap) (fun w48 hCw48 => pureAt_of (ex_move _)) ?_
   simp only [pS, pN, pA, pC, pZ]
   refine gw_pure rfl rfl (.int .i64 ((i : Nat) : Int)) (fun w48 hCw48 => pureAt_of (ex_move _)) ?_
   simp only [pS, pN, pA, pC, pZ]
   refine gw_pure rfl rfl (.int .i64 (((i - 1) : Nat) : Int)) (fun w48 hCw48 => pureAt_of (ex_sub (m := ((i : Nat) : Int)) (n := (1 : Int)) (r := (((i - 1) : Nat) : Int)) rfl rfl (by omega) (by omega) (by omega))) ?_
   simp only [pS, pN, pA, pC, pZ]
   refine gw_pure rfl rfl (.pointer (some ⟨g, 0 + (i - 1) * 4, none⟩)) (fun w48 hCw48 => pureAt_of (ex_at (i := (i - 1)) (sz := 4) Try.underlying47 (sizeof_27 _) rfl rfl rfl (by omega) rfl)) ?_
   simp only [pS, pN, pA, pC, pZ]
   refine gw_pure rfl rfl (.agg #[(.slice xa36 q.name.length xc37), (.slice xa40 q.key.length xc41), (.bool q.gone), (.slice xa45 q.value.length xc46)]) (fun w48 hCw48 => pureAt_of (ex_load rfl (loadN (cs := [(.slice xa36 q.name.length xc37), (.slice xa40 q.key.length xc41), (.bool q.gone), (.slice xa45 q.value.length xc46)]) Try.underlying27 rfl (size_27) (range4 (cell_kept hCw48 c35) (cell_kept hCw48 c39) (cell_kept hCw48 c43) (cell_kept hCw48 c44))))) ?_
   simp only [pS, pN, pA, pC, pZ]
   refine gw_nil ?_
   intro w49 hC51 hF52
   clear hF52
   have S50 := St.tells S11 hC51
   simp only [List.drop_succ_cons, List.drop_zero]
   refine stTells (v := (.bool true)) S50 rfl (ex_fv (fs := #[]) (cs := #[]) (vs := #[(.agg #[(.slice xa21 p.name.length xc22), (.slice xa25 p.key.length xc26), (.bool p.gone), (.slice xa30 p.value.length xc31)]), (.agg #[(.slice xa36 q.name.length xc37), (.slice xa40 q.key.length xc41), (.bool q.gone), (.slice xa45 q.value.length xc46)])]) rfl (vmap (fs := #[]) (cs := #[]) (xs := #[(.agg #[(.slice xa21 p.name.length xc22), (.slice xa25 p.key.length xc26), (.bool p.gone), (.slice xa30 p.value.length xc31)]), (.agg #[(.slice xa36 q.name.length xc37), (.slice xa40 q.key.length xc41), (.bool q.gone), (.slice xa45 q.value.length xc46)])]) (map2 rfl rfl) (by simp)) (ent_49 _ _)) (same_yes _ _ _ _ p q (S50).sat ⟨_, _, _, _, rfl, r23, r27, rfl, r32⟩ ⟨_, _, _, _, rfl, r38, r42, rfl, r47⟩ hc28) (fun w53 S54 => ?_)
   simp only [pS, pN, pA, pC, pZ]
   refine wl_nil (hK17 _ _ ?_)
   refine wp_cond_true rfl ?_
   refine wp_seq_k (fun K55 hK55 => region_wl ?_)
   refine do_ rfl (.slice (some ⟨g, 0, none⟩) l.length cap) (ex_move _) ?_
   simp only [pS, pN, pA, pC, pZ]
   refine do_ rfl (.int .i64 ((i : Nat) : Int)) (ex_move _) ?_
   simp only [pS, pN, pA, pC, pZ]
   refine do_ rfl (.slice (some ⟨g, i * 4, none⟩) (l.length - i) (cap - i)) (ex_slice (l := i) (h := l.length) (sz := 4) Try.underlying47 rfl (sizeof_27 _) (.inr ⟨_, rfl, rfl⟩) (.inl ⟨rfl, rfl⟩) (by omega) (by omega) (slice_at (by omega) rfl rfl (by omega))) ?_
   simp only [pS, pN, pA, pC, pZ]
   refine do_ rfl (.slice (some ⟨g, i * 4, none⟩) (l.length - i) (cap - i)) (ex_assign _) ?_
   simp only [pS, pN, pA, pC, pZ]
   refine wl_nil (hK55 _ _ ?_)
   refine wp_seq_k (fun K56 hK56 => ?_)
   refine wp_seq_k (fun K57 hK57 => region_wl ?_)
   refine do_ rfl (.int .i64 1) (ex_assign _) ?_
   simp only [pS, pN, pA, pC, pZ]
   refine wl_nil (hK57 _ _ ?_)
   refine wp_block ?_
   have hsm := compact_same (by omega) hp hq hc28
   refine wp_loop_g (fun mm aa w59 => ∃ (k : Nat) (n : Nat) (m : List Wr) (u58 : Nat → Value), mm = l.length - i - k ∧ u58 = slots aa ∧ aa = ⟨#[(.slice (some ⟨g, 0, none⟩) l.length cap), (.func (.func 49) #[] #[]), undef, undef, (u6 4), (.int .i64 ((n : Nat) : Int)), (.slice (some ⟨g, i * 4, none⟩) (l.length - i) (cap - i)), (.int .i64 ((k : Nat) : Int)), (.slice (some ⟨g, 0, none⟩) l.length cap), (.int .i64 ((l.length : Nat) : Int)), (.bool false), undef, (.int .i64 ((i : Nat) : Int)), (.slice (some ⟨g, 0, none⟩) l.length cap), (.int .i64 ((l.length : Nat) : Int)), (.bool true), (u6 16), (u6 17), (.func (.func 49) #[] #[]), (.slice (some ⟨g, 0, none⟩) l.length cap), (.int .i64 ((i : Nat) : Int)), (.pointer (some ⟨g, 0 + i * 4, none⟩)), (.agg #[(.slice xa21 p.name.length xc22), (.slice xa25 p.key.length xc26), (.bool p.gone), (.slice xa30 p.value.length xc31)]), (.slice (some ⟨g, 0, none⟩) l.length cap), (.int .i64 ((i : Nat) : Int)), (.int .i64 (((i - 1) : Nat) : Int)), (.pointer (some ⟨g, 0 + (i - 1) * 4, none⟩)), (.agg #[(.slice xa36 q.name.length xc37), (.slice xa40 q.key.length xc41), (.bool q.gone), (.slice xa45 q.value.length xc46)]), (.bool true), (.slice (some ⟨g, 0, none⟩) l.length cap), (.int .i64 ((i : Nat) : Int)), (.slice (some ⟨g, i * 4, none⟩) (l.length - i) (cap - i)), (u58 32), (u58 33), (u58 34), (u58 35), (u58 36), (u58 37), (u58 38), (u58 39), (u58 40), (u58 41), (u58 42), (u58 43), (u58 44), (u58 45), (u58 46), (u58 47), (u58 48), (u58 49), (u58 50), (u58 51), (u58 52), (u58 53), (u58 54), (u58 55), (u58 56), (u58 57), (u58 58), (u6 59), (u6 60), (u6 61), (u6 62), (u6 63), (u6 64), undef], []⟩ ∧ St w0 F0 w59 F (L0) (ownP 4 WrC WrC.mono 27 w0.heap.size (.slice (some ⟨g, 0, none⟩) l.length cap) m :: M0) ∧ (1 ≤ k) ∧ (i + k ≤ l.length) ∧ (1 ≤ n) ∧ (n + 1 ≤ i + k) ∧ (m.length = l.length) ∧ (m.drop (i + k - 1) = l.drop (i + k - 1)) ∧ (m.take n = compactW (l.take (i + k)))) _ ⟨1, i, l, _, rfl, rfl, rfl, S54, (by omega), (by omega), (by omega), (by omega), rfl, (by rw [Nat.add_sub_cancel]), (by rw [hsm, hci])⟩ ?_
   rintro m60 a61 w62 ⟨k, n, m, u58, rfl, -, rfl, S63, hk1, hk2, hn1, hn2, hml, hdr, htk⟩ K65 hK65
   refine wp_seq_k (fun K66 hK66 => ?_)
   refine wp_seq_k (fun K67 hK67 => region_wl ?_)
   refine do_ rfl (.int .i64 ((k : Nat) : Int)) (ex_move _) ?_
   simp only [pS, pN, pA, pC, pZ]
   refine do_ rfl (.slice (some ⟨g, i * 4, none⟩) (l.length - i) (cap - i)) (ex_move _) ?_
   simp only [pS, pN, pA, pC, pZ]
   refine do_ rfl (.int .i64 (((l.length - i) : Nat) : Int)) (ex_len Try.underlying47 rfl) ?_
   simp only [pS, pN, pA, pC, pZ]
   by_cases hc35 : k < (l.length - i)
   ·refine do_ rfl (.bool true) (ex_lss (m := ((k : Nat) : Int)) (n := (((l.length - i) : Nat) : Int)) (b := true) rfl rfl (decide_eq_true (by omega))) ?_
    simp only [pS, pN, pA, pC, pZ]
    refine wl_nil (hK67 _ _ ?_)
    refine wp_cond_true rfl ?_
    refine wp_skip ?_
    refine hK66 _ _ ?_
    refine wp_seq_k (fun K68 hK68 => ?_)
    refine wp_block ?_
    refine wp_seq_k (fun K69 hK69 => ?_)
    obtain ⟨p2, hp2⟩ : ∃ p2, m[i + k]? = some p2 := ⟨m[i + k], List.getElem?_eq_getElem (by omega)⟩
    obtain ⟨q2, hq2⟩ : ∃ q2, m[i + k - 1]? = some q2 := ⟨m[i + k - 1], List.getElem?_eq_getElem (by omega)⟩
    obtain ⟨g70, ha71, xa73, xc74, xa77, xc78, xa82, xc83, c72, c76, c80, c81, r75, r79, r84⟩ := wr_at (S63.own (i := 0) rfl) hp2
    injection ha71 with ha71; injection ha71 with ha71; subst ha71
    obtain ⟨g85, ha86, xa88, xc89, xa92, xc93, xa97, xc98, c87, c91, c95, c96, r90, r94, r99⟩ := wr_at (S63.own (i := 0) rfl) hq2
    injection ha86 with ha86; injection ha86 with ha86; subst ha86
    have c100 : w62.cell? ⟨g, i * 4 + k * 4, none⟩ = some (.slice xa73 p2.name.length xc74) := by rw [show i * 4 + k * 4 = 0 + (i + k) * 4 from by omega]; exact c72
    have c101 : w62.cell? ⟨g, i * 4 + k * 4 + 1, none⟩ = some (.slice xa77 p2.key.length xc78) := by rw [show i * 4 + k * 4 + 1 = 0 + (i + k) * 4 + 1 from by omega]; exact c76
    have c102 : w62.cell? ⟨g, i * 4 + k * 4 + 2, none⟩ = some (.bool p2.gone) := by rw [show i * 4 + k * 4 + 2 = 0 + (i + k) * 4 + 2 from by omega]; exact c80
    have c103 : w62.cell? ⟨g, i * 4 + k * 4 + 3, none⟩ = some (.slice xa82 p2.value.length xc83) := by rw [show i * 4 + k * 4 + 3 = 0 + (i + k) * 4 + 3 from by omega]; exact c81
    have c104 : w62.cell? ⟨g, i * 4 + (k - 1) * 4, none⟩ = some (.slice xa88 q2.name.length xc89) := by rw [show i * 4 + (k - 1) * 4 = 0 + (i + k - 1) * 4 from by omega]; exact c87
    have c105 : w62.cell? ⟨g, i * 4 + (k - 1) * 4 + 1, none⟩ = some (.slice xa92 q2.key.length xc93) := by rw [show i * 4 + (k - 1) * 4 + 1 = 0 + (i + k - 1) * 4 + 1 from by omega]; exact c91
    have c106 : w62.cell? ⟨g, i * 4 + (k - 1) * 4 + 2, none⟩ = some (.bool q2.gone) := by rw [show i * 4 + (k - 1) * 4 + 2 = 0 + (i + k - 1) * 4 + 2 from by omega]; exact c95
    have c107 : w62.cell? ⟨g, i * 4 + (k - 1) * 4 + 3, none⟩ = some (.slice xa97 q2.value.length xc98) := by rw [show i * 4 + (k - 1) * 4 + 3 = 0 + (i + k - 1) * 4 + 3 from by omega]; exact c96
    have hpl : l[i + k]? = some p2 := by rw [← drop_get hdr (by omega)]; exact hp2
    have hql : l[i + k - 1]? = some q2 := by rw [← drop_get hdr (by omega)]; exact hq2
    by_cases hc48 : cmpW p2 q2 = 0
    ·refine region_gw F 10 [] (by kernel_rfl) (by kernel_rfl) ?_
     simp only [List.take_succ_cons, List.take_zero]
     refine gw_pure rfl rfl (.func (.func 49) #[] #[]) (fun w108 hCw108 => pureAt_of (ex_move _)) ?_
     simp only [pS, pN, pA, pC, pZ]
     refine gw_pure rfl rfl (.slice (some ⟨g, i * 4, none⟩) (l.length - i) (cap - i)) (fun w108 hCw108 => pureAt_of (ex_move _)) ?_
     simp only [pS, pN, pA, pC, pZ]
     refine gw_pure rfl rfl (.int .i64 ((k : Nat) : Int)) (fun w108 hCw108 => pureAt_of (ex_move _)) ?_
     simp only [pS, pN, pA, pC, pZ]
     refine gw_pure rfl rfl (.pointer (some ⟨g, i * 4 + k * 4, none⟩)) (fun w108 hCw108 => pureAt_of (ex_at (i := k) (sz := 4) Try.underlying47 (sizeof_27 _) rfl rfl rfl (by omega) rfl)) ?_
     simp only [pS, pN, pA, pC, pZ]
     refine gw_pure rfl rfl (.agg #[(.slice xa73 p2.name.length xc74), (.slice xa77 p2.key.length xc78), (.bool p2.gone), (.slice xa82 p2.value.length xc83)]) (fun w108 hCw108 => pureAt_of (ex_load rfl (loadN (cs := [(.slice xa73 p2.name.length xc74), (.slice xa77 p2.key.length xc78), (.bool p2.gone), (.slice xa82 p2.value.length xc83)]) Try.underlying27 rfl (size_27) (range4 (cell_kept hCw108 c100) (cell_kept hCw108 c101) (cell_kept hCw108 c102) (cell_kept hCw108 c103))))) ?_
     simp only [pS, pN, pA, pC, pZ]
     refine gw_pure rfl rfl (.slice (some ⟨g, i * 4, none⟩) (l.length - i) (cap - i)) (fun w108 hCw108 => pureAt_of (ex_move _)) ?_
     simp only [pS, pN, pA, pC, pZ]
     refine gw_pure rfl rfl (.int .i64 ((k : Nat) : Int)) (fun w108 hCw108 => pureAt_of (ex_move _)) ?_
     simp only [pS, pN, pA, pC, pZ]
     refine gw_pure rfl rfl (.int .i64 (((k - 1) : Nat) : Int)) (fun w108 hCw108 => pureAt_of (ex_sub (m := ((k : Nat) : Int)) (n := (1 : Int)) (r := (((k - 1) : Nat) : Int)) rfl rfl (by omega) (by omega) (by omega))) ?_
     simp only [pS, pN, pA, pC, pZ]
     refine gw_pure rfl rfl (.pointer (some ⟨g, i * 4 + (k - 1) * 4, none⟩)) (fun w108 hCw108 => pureAt_of (ex_at (i := (k - 1)) (sz := 4) Try.underlying47 (sizeof_27 _) rfl rfl rfl (by omega) rfl)) ?_
     simp only [pS, pN, pA, pC, pZ]
     refine gw_pure rfl rfl (.agg #[(.slice xa88 q2.name.length xc89), (.slice xa92 q2.key.length xc93), (.bool q2.gone), (.slice xa97 q2.value.length xc98)]) (fun w108 hCw108 => pureAt_of (ex_load rfl (loadN (cs := [(.slice xa88 q2.name.length xc89), (.slice xa92 q2.key.length xc93), (.bool q2.gone), (.slice xa97 q2.value.length xc98)]) Try.underlying27 rfl (size_27) (range4 (cell_kept hCw108 c104) (cell_kept hCw108 c105) (cell_kept hCw108 c106) (cell_kept hCw108 c107))))) ?_
     simp only [pS, pN, pA, pC, pZ]
     refine gw_nil ?_
     intro w109 hC111 hF112
     clear hF112
     have S110 := St.tells S63 hC111
     simp only [List.drop_succ_cons, List.drop_zero]
     refine stTells (v := (.bool true)) S110 rfl (ex_fv (fs := #[]) (cs := #[]) (vs := #[(.agg #[(.slice xa73 p2.name.length xc74), (.slice xa77 p2.key.length xc78), (.bool p2.gone), (.slice xa82 p2.value.length xc83)]), (.agg #[(.slice xa88 q2.name.length xc89), (.slice xa92 q2.key.length xc93), (.bool q2.gone), (.slice xa97 q2.value.length xc98)])]) rfl (vmap (fs := #[]) (cs := #[]) (xs := #[(.agg #[(.slice xa73 p2.name.length xc74), (.slice xa77 p2.key.length xc78), (.bool p2.gone), (.slice xa82 p2.value.length xc83)]), (.agg #[(.slice xa88 q2.name.length xc89), (.slice xa92 q2.key.length xc93), (.bool q2.gone), (.slice xa97 q2.value.length xc98)])]) (map2 rfl rfl) (by simp)) (ent_49 _ _)) (same_yes _ _ _ _ p2 q2 (S110).sat ⟨_, _, _, _, rfl, r75, r79, rfl, r84⟩ ⟨_, _, _, _, rfl, r90, r94, rfl, r99⟩ hc48) (fun w113 S114 => ?_)
     simp only [pS, pN, pA, pC, pZ]
     refine do_ rfl (.bool false) (ex_not (b := true) rfl rfl) ?_
     simp only [pS, pN, pA, pC, pZ]
     refine wl_nil (hK69 _ _ ?_)
     refine wp_cond_false rfl ?_
     refine wp_skip ?_
     refine hK68 _ _ ?_
     refine region_wl ?_
     refine do_ rfl (.int .i64 ((k : Nat) : Int)) (ex_move _) ?_
     simp only [pS, pN, pA, pC, pZ]
     refine do_ rfl (.int .i64 (((k + 1) : Nat) : Int)) (ex_add (m := ((k : Nat) : Int)) (n := (1 : Int)) (r := (((k + 1) : Nat) : Int)) rfl rfl (by omega) (by omega) (by omega)) ?_
     simp only [pS, pN, pA, pC, pZ]
     refine do_ rfl (.int .i64 (((k + 1) : Nat) : Int)) (ex_assign _) ?_
     simp only [pS, pN, pA, pC, pZ]
     refine wl_nil ?_
     exact hK65 _ _ _ (by omega) ⟨(k + 1), n, m, _, rfl, rfl, rfl, S114, (by omega), (by omega), (by omega), (by omega), hml, (drop_more hdr (by omega)), (by rw [htk, show i + (k + 1) = i + k + 1 from by omega]; exact (compact_same (by omega) hpl hql hc48).symm)⟩
    ·refine region_gw F 10 [] (by kernel_rfl) (by kernel_rfl) ?_
     simp only [List.take_succ_cons, List.take_zero]
     refine gw_pure rfl rfl (.func (.func 49) #[] #[]) (fun w115 hCw115 => pureAt_of (ex_move _)) ?_
     simp only [pS, pN, pA, pC, pZ]
     refine gw_pure rfl rfl (.slice (some ⟨g, i * 4, none⟩) (l.length - i) (cap - i)) (fun w115 hCw115 => pureAt_of (ex_move _)) ?_
     simp only [pS, pN, pA, pC, pZ]
     refine gw_pure rfl rfl (.int .i64 ((k : Nat) : Int)) (fun w115 hCw115 => pureAt_of (ex_move _)) ?_
     simp only [pS, pN, pA, pC, pZ]
     refine gw_pure rfl rfl (.pointer (some ⟨g, i * 4 + k * 4, none⟩)) (fun w115 hCw115 => pureAt_of (ex_at (i := k) (sz := 4) Try.underlying47 (sizeof_27 _) rfl rfl rfl (by omega) rfl)) ?_
     simp only [pS, pN, pA, pC, pZ]
     refine gw_pure rfl rfl (.agg #[(.slice xa73 p2.name.length xc74), (.slice xa77 p2.key.length xc78), (.bool p2.gone), (.slice xa82 p2.value.length xc83)]) (fun w115 hCw115 => pureAt_of (ex_load rfl (loadN (cs := [(.slice xa73 p2.name.length xc74), (.slice xa77 p2.key.length xc78), (.bool p2.gone), (.slice xa82 p2.value.length xc83)]) Try.underlying27 rfl (size_27) (range4 (cell_kept hCw115 c100) (cell_kept hCw115 c101) (cell_kept hCw115 c102) (cell_kept hCw115 c103))))) ?_
     simp only [pS, pN, pA, pC, pZ]
     refine gw_pure rfl rfl (.slice (some ⟨g, i * 4, none⟩) (l.length - i) (cap - i)) (fun w115 hCw115 => pureAt_of (ex_move _)) ?_
     simp only [pS, pN, pA, pC, pZ]
     refine gw_pure rfl rfl (.int .i64 ((k : Nat) : Int)) (fun w115 hCw115 => pureAt_of (ex_move _)) ?_
     simp only [pS, pN, pA, pC, pZ]
     refine gw_pure rfl rfl (.int .i64 (((k - 1) : Nat) : Int)) (fun w115 hCw115 => pureAt_of (ex_sub (m := ((k : Nat) : Int)) (n := (1 : Int)) (r := (((k - 1) : Nat) : Int)) rfl rfl (by omega) (by omega) (by omega))) ?_
     simp only [pS, pN, pA, pC, pZ]
     refine gw_pure rfl rfl (.pointer (some ⟨g, i * 4 + (k - 1) * 4, none⟩)) (fun w115 hCw115 => pureAt_of (ex_at (i := (k - 1)) (sz := 4) Try.underlying47 (sizeof_27 _) rfl rfl rfl (by omega) rfl)) ?_
     simp only [pS, pN, pA, pC, pZ]
     refine gw_pure rfl rfl (.agg #[(.slice xa88 q2.name.length xc89), (.slice xa92 q2.key.length xc93), (.bool q2.gone), (.slice xa97 q2.value.length xc98)]) (fun w115 hCw115 => pureAt_of (ex_load rfl (loadN (cs := [(.slice xa88 q2.name.length xc89), (.slice xa92 q2.key.length xc93), (.bool q2.gone), (.slice xa97 q2.value.length xc98)]) Try.underlying27 rfl (size_27) (range4 (cell_kept hCw115 c104) (cell_kept hCw115 c105) (cell_kept hCw115 c106) (cell_kept hCw115 c107))))) ?_
     simp only [pS, pN, pA, pC, pZ]
     refine gw_nil ?_
     intro w116 hC118 hF119
     clear hF119
     have S117 := St.tells S63 hC118
     simp only [List.drop_succ_cons, List.drop_zero]
     refine stTells (v := (.bool false)) S117 rfl (ex_fv (fs := #[]) (cs := #[]) (vs := #[(.agg #[(.slice xa73 p2.name.length xc74), (.slice xa77 p2.key.length xc78), (.bool p2.gone), (.slice xa82 p2.value.length xc83)]), (.agg #[(.slice xa88 q2.name.length xc89), (.slice xa92 q2.key.length xc93), (.bool q2.gone), (.slice xa97 q2.value.length xc98)])]) rfl (vmap (fs := #[]) (cs := #[]) (xs := #[(.agg #[(.slice xa73 p2.name.length xc74), (.slice xa77 p2.key.length xc78), (.bool p2.gone), (.slice xa82 p2.value.length xc83)]), (.agg #[(.slice xa88 q2.name.length xc89), (.slice xa92 q2.key.length xc93), (.bool q2.gone), (.slice xa97 q2.value.length xc98)])]) (map2 rfl rfl) (by simp)) (ent_49 _ _)) (same_no _ _ _ _ p2 q2 (S117).sat ⟨_, _, _, _, rfl, r75, r79, rfl, r84⟩ ⟨_, _, _, _, rfl, r90, r94, rfl, r99⟩ hc48) (fun w120 S121 => ?_)
     simp only [pS, pN, pA, pC, pZ]
     refine do_ rfl (.bool true) (ex_not (b := false) rfl rfl) ?_
     simp only [pS, pN, pA, pC, pZ]
     refine wl_nil (hK69 _ _ ?_)
     refine wp_cond_true rfl ?_
     refine wp_seq_k (fun K122 hK122 => ?_)
     obtain ⟨g123, ha124, xa126, xc127, xa130, xc131, xa135, xc136, c125, c129, c133, c134, r128, r132, r137⟩ := wr_at (S121.own (i := 0) rfl) hp2
     injection ha124 with ha124; injection ha124 with ha124; subst ha124
     have c138 : w120.cell? ⟨g, i * 4 + k * 4, none⟩ = some (.slice xa126 p2.name.length xc127) := by rw [show i * 4 + k * 4 = 0 + (i + k) * 4 from by omega]; exact c125
     have c139 : w120.cell? ⟨g, i * 4 + k * 4 + 1, none⟩ = some (.slice xa130 p2.key.length xc131) := by rw [show i * 4 + k * 4 + 1 = 0 + (i + k) * 4 + 1 from by omega]; exact c129
     have c140 : w120.cell? ⟨g, i * 4 + k * 4 + 2, none⟩ = some (.bool p2.gone) := by rw [show i * 4 + k * 4 + 2 = 0 + (i + k) * 4 + 2 from by omega]; exact c133
     have c141 : w120.cell? ⟨g, i * 4 + k * 4 + 3, none⟩ = some (.slice xa135 p2.value.length xc136) := by rw [show i * 4 + k * 4 + 3 = 0 + (i + k) * 4 + 3 from by omega]; exact c134
     refine region_wl ?_
     refine do_ rfl (.slice (some ⟨g, 0, none⟩) l.length cap) (ex_move _) ?_
     simp only [pS, pN, pA, pC, pZ]
     refine do_ rfl (.int .i64 ((n : Nat) : Int)) (ex_move _) ?_
     simp only [pS, pN, pA, pC, pZ]
     refine do_ rfl (.slice (some ⟨g, i * 4, none⟩) (l.length - i) (cap - i)) (ex_move _) ?_
     simp only [pS, pN, pA, pC, pZ]
     refine do_ rfl (.int .i64 ((k : Nat) : Int)) (ex_move _) ?_
     simp only [pS, pN, pA, pC, pZ]
     refine do_ rfl (.pointer (some ⟨g, i * 4 + k * 4, none⟩)) (ex_at (i := k) (sz := 4) Try.underlying47 (sizeof_27 _) rfl rfl rfl (by omega) rfl) ?_
     simp only [pS, pN, pA, pC, pZ]
     refine do_ rfl (.agg #[(.slice xa126 p2.name.length xc127), (.slice xa130 p2.key.length xc131), (.bool p2.gone), (.slice xa135 p2.value.length xc136)]) (ex_load rfl (loadN (cs := [(.slice xa126 p2.name.length xc127), (.slice xa130 p2.key.length xc131), (.bool p2.gone), (.slice xa135 p2.value.length xc136)]) Try.underlying27 rfl (size_27) (range4 c138 c139 c140 c141))) ?_
     simp only [pS, pN, pA, pC, pZ]
     refine do_ rfl (.pointer (some ⟨g, 0 + n * 4, none⟩)) (ex_at (i := n) (sz := 4) Try.underlying47 (sizeof_27 _) rfl rfl rfl (by omega) rfl) ?_
     simp only [pS, pN, pA, pC, pZ]
     refine stSetRow (r := 0) (i := n) (p := p2) (u := (.agg #[(.slice xa126 p2.name.length xc127), (.slice xa130 p2.key.length xc131), (.bool p2.gone), (.slice xa135 p2.value.length xc136)])) S121 rfl rfl (by omega) rfl rfl (by omega) (size_27) (allc4 rfl rfl rfl rfl) rfl ⟨_, _, _, _, rfl, r128, r132, rfl, r137⟩ (Nat.le_refl _) (fun w142 S143 => ?_)
     simp only [pS, pN, pA, pC, pZ]
     have S143 : St w0 F0 w142 F (L0) (ownP 4 WrC WrC.mono 27 w0.heap.size (.slice (some ⟨g, 0, none⟩) l.length cap) (m.set n p2) :: M0) := S143
     refine wl_nil (hK122 _ _ ?_)
     refine region_wl ?_
     refine do_ rfl (.int .i64 ((n : Nat) : Int)) (ex_move _) ?_
     simp only [pS, pN, pA, pC, pZ]
     refine do_ rfl (.int .i64 (((n + 1) : Nat) : Int)) (ex_add (m := ((n : Nat) : Int)) (n := (1 : Int)) (r := (((n + 1) : Nat) : Int)) rfl rfl (by omega) (by omega) (by omega)) ?_
     simp only [pS, pN, pA, pC, pZ]
     refine do_ rfl (.int .i64 (((n + 1) : Nat) : Int)) (ex_assign _) ?_
     simp only [pS, pN, pA, pC, pZ]
     refine wl_nil (hK68 _ _ ?_)
     refine region_wl ?_
     refine do_ rfl (.int .i64 ((k : Nat) : Int)) (ex_move _) ?_
     simp only [pS, pN, pA, pC, pZ]
     refine do_ rfl (.int .i64 (((k + 1) : Nat) : Int)) (ex_add (m := ((k : Nat) : Int)) (n := (1 : Int)) (r := (((k + 1) : Nat) : Int)) rfl rfl (by omega) (by omega) (by omega)) ?_
     simp only [pS, pN, pA, pC, pZ]
     refine do_ rfl (.int .i64 (((k + 1) : Nat) : Int)) (ex_assign _) ?_
     simp only [pS, pN, pA, pC, pZ]
     refine wl_nil ?_
     exact hK65 _ _ _ (by omega) ⟨(k + 1), (n + 1), (m.set n p2), _, rfl, rfl, rfl, S143, (by omega), (by omega), (by omega), (by omega), (by rw [List.length_set]; exact hml), (by have := set_drop (x := p2) hdr (i := n) (by omega); rwa [show i + k - 1 + 1 = i + (k + 1) - 1 from by omega] at this), (by rw [set_take (by omega), htk, show i + (k + 1) = i + k + 1 from by omega]; exact (compact_more (by omega) hpl hql hc48).symm)⟩
   ·refine do_ rfl (.bool false) (ex_lss (m := ((k : Nat) : Int)) (n := (((l.length - i) : Nat) : Int)) (b := false) rfl rfl (decide_eq_false (by omega))) ?_
    simp only [pS, pN, pA, pC, pZ]
    refine wl_nil (hK67 _ _ ?_)
    refine wp_cond_false rfl ?_
    refine wp_exit ?_
    refine hK56 _ _ ?_
    refine wp_seq_k (fun K144 hK144 => region_wl ?_)
    refine do_ rfl (.slice (some ⟨g, 0, none⟩) l.length cap) (ex_move _) ?_
    simp only [pS, pN, pA, pC, pZ]
    refine do_ rfl (.int .i64 ((n : Nat) : Int)) (ex_move _) ?_
    simp only [pS, pN, pA, pC, pZ]
    refine do_ rfl (.slice (some ⟨g, n * 4, none⟩) (l.length - n) (cap - n)) (ex_slice (l := n) (h := l.length) (sz := 4) Try.underlying47 rfl (sizeof_27 _) (.inr ⟨_, rfl, rfl⟩) (.inl ⟨rfl, rfl⟩) (by omega) (by omega) (slice_at (by omega) rfl rfl (by omega))) ?_
    simp only [pS, pN, pA, pC, pZ]
    have hfin : m.take n = compactW l := by rw [htk, List.take_of_length_le (by omega)]
    have S63 : St w0 F0 w62 F (L0) (ownP 4 WrC WrC.mono 27 w0.heap.size (.slice (some ⟨g, 0, none⟩) m.length cap) m :: M0) := by rw [hml]; exact S63
    refine stClearRow (i := n) (.agg #[(.slice none 0 0), (.slice none 0 0), (.bool false), (.slice none 0 0)]) S63 (Nat.le_refl _) rfl Try.underlying47 (fun w => zero_27 w) rfl (by decide) (by rw [hml]; rfl) rfl (by omega) (fun w145 S146 => ?_)
    simp only [pS, pN, pA, pC, pZ]
    rw [hfin] at S146
    have S146 : St w0 F0 w145 F (L0) (ownP 4 WrC WrC.mono 27 w0.heap.size (.slice (some ⟨g, 0, none⟩) n cap) (compactW l) :: M0) := S146
    refine wl_nil (hK144 _ _ ?_)
    refine wp_seq_k (fun K147 hK147 => region_wl ?_)
    refine do_ rfl (.slice (some ⟨g, 0, none⟩) l.length cap) (ex_move _) ?_
    simp only [pS, pN, pA, pC, pZ]
    refine do_ rfl (.int .i64 ((n : Nat) : Int)) (ex_move _) ?_
    simp only [pS, pN, pA, pC, pZ]
    refine do_ rfl (.slice (some ⟨g, 0, none⟩) n cap) (ex_slice (l := 0) (h := n) (sz := 4) Try.underlying47 rfl (sizeof_27 _) (.inl ⟨rfl, rfl⟩) (.inr ⟨_, rfl, rfl⟩) (by omega) (by omega) (slice_zero)) ?_
    simp only [pS, pN, pA, pC, pZ]
    refine do_ rfl (.slice (some ⟨g, 0, none⟩) n cap) (ex_assign _) ?_
    simp only [pS, pN, pA, pC, pZ]
    refine wl_nil (hK147 _ _ ?_)
    refine wp_ret ?_
    (try simp only [Exit.then, Exit.inBlock, ↓reduceIte, Nat.reduceEqDiff])
    refine bodyPost_ret (v := (.slice (some ⟨g, 0, none⟩) n cap)) ?_ rfl ?_
    ·exact res_t rfl rfl
    ·exact ⟨_, rfl, S146⟩
  ·refine region_gw F 10 [] (by kernel_rfl) (by kernel_rfl) ?_
   simp only [List.take_succ_cons, List.take_zero]
   refine gw_pure rfl rfl (.func (.func 49) #[] #[]) (fun w148 hCw148 => pureAt_of (ex_move _)) ?_
   simp only [pS, pN, pA, pC, pZ]
   refine gw_pure rfl rfl (.slice (some ⟨g, 0, none⟩) l.length cap) (fun w148 hCw148 => pureAt_of (ex_move _)) ?_
   simp only [pS, pN, pA, pC, pZ]
   refine gw_pure rfl rfl (.int .i64 ((i : Nat) : Int)) (fun w148 hCw148 => pureAt_of (ex_move _)) ?_
   simp only [pS, pN, pA, pC, pZ]
   refine gw_pure rfl rfl (.pointer (some ⟨g, 0 + i * 4, none⟩)) (fun w148 hCw148 => pureAt_of (ex_at (i := i) (sz := 4) Try.underlying47 (sizeof_27 _) rfl rfl rfl (by omega) rfl)) ?_
   simp only [pS, pN, pA, pC, pZ]
   refine gw_pure rfl rfl (.agg #[(.slice xa21 p.name.length xc22), (.slice xa25 p.key.length xc26), (.bool p.gone), (.slice xa30 p.value.length xc31)]) (fun w148 hCw148 => pureAt_of (ex_load rfl (loadN (cs := [(.slice xa21 p.name.length xc22), (.slice xa25 p.key.length xc26), (.bool p.gone), (.slice xa30 p.value.length xc31)]) Try.underlying27 rfl (size_27) (range4 (cell_kept hCw148 c20) (cell_kept hCw148 c24) (cell_kept hCw148 c28) (cell_kept hCw148 c29))))) ?_
   simp only [pS, pN, pA, pC, pZ]
   refine gw_pure rfl rfl (.slice (some ⟨g, 0, none⟩) l.length cap) (fun w148 hCw148 => pureAt_of (ex_move _)) ?_
   simp only [pS, pN, pA, pC, pZ]
   refine gw_pure rfl rfl (.int .i64 ((i : Nat) : Int)) (fun w148 hCw148 => pureAt_of (ex_move _)) ?_
   simp only [pS, pN, pA, pC, pZ]
   refine gw_pure rfl rfl (.int .i64 (((i - 1) : Nat) : Int)) (fun w148 hCw148 => pureAt_of (ex_sub (m := ((i : Nat) : Int)) (n := (1 : Int)) (r := (((i - 1) : Nat) : Int)) rfl rfl (by omega) (by omega) (by omega))) ?_
   simp only [pS, pN, pA, pC, pZ]
   refine gw_pure rfl rfl (.pointer (some ⟨g, 0 + (i - 1) * 4, none⟩)) (fun w148 hCw148 => pureAt_of (ex_at (i := (i - 1)) (sz := 4) Try.underlying47 (sizeof_27 _) rfl rfl rfl (by omega) rfl)) ?_
   simp only [pS, pN, pA, pC, pZ]
   refine gw_pure rfl rfl (.agg #[(.slice xa36 q.name.length xc37), (.slice xa40 q.key.length xc41), (.bool q.gone), (.slice xa45 q.value.length xc46)]) (fun w148 hCw148 => pureAt_of (ex_load rfl (loadN (cs := [(.slice xa36 q.name.length xc37), (.slice xa40 q.key.length xc41), (.bool q.gone), (.slice xa45 q.value.length xc46)]) Try.underlying27 rfl (size_27) (range4 (cell_kept hCw148 c35) (cell_kept hCw148 c39) (cell_kept hCw148 c43) (cell_kept hCw148 c44))))) ?_
   simp only [pS, pN, pA, pC, pZ]
   refine gw_nil ?_
   intro w149 hC151 hF152
   clear hF152
   have S150 := St.tells S11 hC151
   simp only [List.drop_succ_cons, List.drop_zero]
   refine stTells (v := (.bool false)) S150 rfl (ex_fv (fs := #[]) (cs := #[]) (vs := #[(.agg #[(.slice xa21 p.name.length xc22), (.slice xa25 p.key.length xc26), (.bool p.gone), (.slice xa30 p.value.length xc31)]), (.agg #[(.slice xa36 q.name.length xc37), (.slice xa40 q.key.length xc41), (.bool q.gone), (.slice xa45 q.value.length xc46)])]) rfl (vmap (fs := #[]) (cs := #[]) (xs := #[(.agg #[(.slice xa21 p.name.length xc22), (.slice xa25 p.key.length xc26), (.bool p.gone), (.slice xa30 p.value.length xc31)]), (.agg #[(.slice xa36 q.name.length xc37), (.slice xa40 q.key.length xc41), (.bool q.gone), (.slice xa45 q.value.length xc46)])]) (map2 rfl rfl) (by simp)) (ent_49 _ _)) (same_no _ _ _ _ p q (S150).sat ⟨_, _, _, _, rfl, r23, r27, rfl, r32⟩ ⟨_, _, _, _, rfl, r38, r42, rfl, r47⟩ hc28) (fun w153 S154 => ?_)
   simp only [pS, pN, pA, pC, pZ]
   refine wl_nil (hK17 _ _ ?_)
   refine wp_cond_false rfl ?_
   refine wp_skip ?_
   refine hK16 _ _ ?_
   refine region_wl ?_
   refine do_ rfl (.int .i64 ((i : Nat) : Int)) (ex_move _) ?_
   simp only [pS, pN, pA, pC, pZ]
   refine do_ rfl (.int .i64 (((i + 1) : Nat) : Int)) (ex_add (m := ((i : Nat) : Int)) (n := (1 : Int)) (r := (((i + 1) : Nat) : Int)) rfl rfl (by omega) (by omega) (by omega)) ?_
   simp only [pS, pN, pA, pC, pZ]
   refine do_ rfl (.int .i64 (((i + 1) : Nat) : Int)) (ex_assign _) ?_
   simp only [pS, pN, pA, pC, pZ]
   refine wl_nil ?_
   have hst := compact_more (by omega) hp hq hc28
   have htl : l.take (i + 1) = l.take i ++ [p] := by rw [List.take_add_one, hp]; rfl
   exact hK13 _ _ _ (by omega) ⟨(i + 1), _, rfl, rfl, rfl, S154, (by omega), (by omega), (by rw [hst, hci, htl])⟩
 ·refine do_ rfl (.bool false) (ex_lss (m := ((i : Nat) : Int)) (n := ((l.length : Nat) : Int)) (b := false) rfl rfl (decide_eq_false (by omega))) ?_
  simp only [pS, pN, pA, pC, pZ]
  refine wl_nil (hK15 _ _ ?_)
  refine wp_cond_false rfl ?_
  refine wp_exit ?_
  refine hK4 _ _ ?_
  refine wp_seq_k (fun K155 hK155 => region_wl ?_)
  refine do_ rfl (.slice (some ⟨g, 0, none⟩) l.length cap) (ex_move _) ?_
  simp only [pS, pN, pA, pC, pZ]
  refine do_ rfl (.slice (some ⟨g, 0, none⟩) l.length cap) (ex_assign _) ?_
  simp only [pS, pN, pA, pC, pZ]
  refine wl_nil (hK155 _ _ ?_)
  refine wp_ret ?_
  (try simp only [Exit.then, Exit.inBlock, ↓reduceIte, Nat.reduceEqDiff])
  refine bodyPost_ret (v := (.slice (some ⟨g, 0, none⟩) l.length cap)) ?_ rfl ?_
  ·exact res_t rfl rfl
  ·have hfin : compactW l = l := by rw [List.take_of_length_le (by omega)] at hci; exact hci
   rw [hfin]
   exact ⟨_, rfl, S11⟩
theorem compact_own {w0 w : World} {F0 F : Fz} {L0 : List Blk} {M0 : List RowP} {l : List Wr} {v : Value}
    (S : St w0 F0 w F L0 (ownP 4 WrC WrC.mono 27 w0.heap.size v l :: M0)) (hl : l.length ≤ 1000000) :
    Calls Try.prog 48 #[v, .func (.func 49) #[] #[]] w fun e w' => ∃ v', e = .returned v' ∧ St w0 F0 w' F L0 (ownP 4 WrC WrC.mono 27 w0.heap.size v' (compactW l) :: M0) := by
  by_cases h2 : l.length < 2
  · exact compactShort S hl h2
  · obtain ⟨g, cap, rfl, _⟩ := (S.own (i := 0) rfl).form (by omega)
    exact compactLong S hl h2
end Go.Proofs.Ytlimmmidfhpakaa
