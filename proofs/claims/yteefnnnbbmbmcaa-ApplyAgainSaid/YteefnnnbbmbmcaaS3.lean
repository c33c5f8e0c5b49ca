/- Rows: appended slice to slice, written in place. No program in sight. -/
import Derived.Test.YteefnnnbbmbmcaaS2
import Derived.Maps.AppendAt
namespace Go.Proofs.Yteefnnnbbmbmcaa
open Go.RowKit
set_option linter.unusedVariables false
/-- A slice that can be read in this world. -/
def SlW {α : Type} (w : World) (F : Fz) (k : Nat) (R : Fz → List Value → α → Prop) (v : Value) (l : List α) : Prop :=
  ∃ (el : List (List Value)) (a : Option Addr) (c : Nat), v = .slice a l.length c ∧ l.length ≤ c ∧ c ≤ maxLen ∧ (a = none → l = [] ∧ c = 0) ∧ AllR (R F) el l ∧ (∀ x ∈ el, x.length = k) ∧
    (el.flatten = [] ∨ ∃ b o, a = some ⟨b, o, none⟩ ∧ ∀ j u, el.flatten[j]? = some u → w.cell? ⟨b, o + j, none⟩ = some u)
section
variable {α : Type} {w w' : World} {F F' : Fz} {k : Nat} {R : Fz → List Value → α → Prop} {v : Value} {l : List α}
theorem Sl.toW (h : Sl k R F v l) (hs : Sat w F) : SlW w F k R v l := by
  obtain ⟨el, ⟨a, c, h1, h2, h3, h4, h5⟩, h6, h7⟩ := h
  refine ⟨el, a, c, h1, h2, h3, fun e => ⟨List.eq_nil_of_length_eq_zero (h4 e).1, (h4 e).2⟩, h6, h7, h5.imp id ?_⟩
  rintro ⟨b, o, e, hc⟩
  exact ⟨b, o, e, fun j u hu => hs.cell (hc j u hu)⟩
theorem Own.toW {E base : Nat} (h : Own k R E base w F v l) : SlW w F k R v l := by
  obtain ⟨el, ⟨e1, e2⟩, h2, h3⟩ := h.ex
  rcases e2 with ⟨rfl, h0⟩ | ⟨g, cap, cur, rfl, hb, hg, q1, q2, q3, q4⟩
  · have hl : l = [] := List.eq_nil_of_length_eq_zero h0
    subst hl
    exact ⟨el, none, 0, rfl, by simp, Nat.zero_le _, fun _ => ⟨rfl, rfl⟩, h2, h3, .inl (List.eq_nil_of_length_eq_zero (by simpa using e1))⟩
  · refine ⟨el, _, cap, rfl, q1, q2, (fun e => by cases e), h2, h3, .inr ⟨g, 0, rfl, fun j u hu => ?_⟩⟩
    rw [← q4, List.getElem?_take] at hu
    split at hu
    · rw [Nat.zero_add]; simp only [World.cell?, hg]; simpa using hu
    · cases hu
theorem flatten_take {el : List (List Value)} (h3 : ∀ x ∈ el, x.length = k) (m : Nat) : (el.take m).flatten = el.flatten.take (m * k) := by
  induction el generalizing m with
  | nil => simp
  | cons x el ih =>
    cases m with
    | zero => simp
    | succ m =>
      have hx := h3 x (by simp)
      simp only [List.take_succ_cons, List.flatten_cons]
      rw [ih (fun y hy => h3 y (by simp [hy])), Nat.add_mul, Nat.one_mul, List.take_append, hx, show m * k + k - k = m * k from by omega, List.take_of_length_le (show x.length ≤ m * k + k by omega)]
theorem flatten_drop {el : List (List Value)} (h3 : ∀ x ∈ el, x.length = k) (m : Nat) : (el.drop m).flatten = el.flatten.drop (m * k) := by
  induction el generalizing m with
  | nil => simp
  | cons x el ih =>
    cases m with
    | zero => simp
    | succ m =>
      have hx := h3 x (by simp)
      simp only [List.drop_succ_cons, List.flatten_cons]
      rw [ih (fun y hy => h3 y (by simp [hy])), Nat.add_mul, Nat.one_mul, List.drop_append, hx, show m * k + k - k = m * k from by omega, List.drop_of_length_le (show x.length ≤ m * k + k by omega)]
      simp
theorem SlW.takeN {a : Option Addr} {n c m : Nat} (h : SlW w F k R (.slice a n c) l) (hm : m ≤ n) : SlW w F k R (.slice a m c) (l.take m) := by
  obtain ⟨el, a', c', h1, h2, h3, h4, h5, h6, h7⟩ := h
  cases h1
  refine ⟨el.take m, a, c, by rw [List.length_take, Nat.min_eq_left hm], by rw [List.length_take]; omega, h3, fun e => ⟨by rw [(h4 e).1]; simp, (h4 e).2⟩, h5.take m, fun x hx => h6 x (List.mem_of_mem_take hx), ?_⟩
  rw [flatten_take h6]
  refine h7.imp (fun e => by rw [e]; simp) ?_
  rintro ⟨b, o, e, hc⟩
  refine ⟨b, o, e, fun j u hu => hc j u ?_⟩
  rw [List.getElem?_take] at hu
  split at hu
  · exact hu
  · cases hu
/-- s[m:], wherever it begins. -/
theorem SlW.dropN {a : Option Addr} {n c m : Nat} (h : SlW w F k R (.slice a n c) l) (hm : m ≤ n) : SlW w F k R (.slice (if c = m then a else a.map (·.add (m * k))) (n - m) (c - m)) (l.drop m) := by
  obtain ⟨el, a', c', h1, h2, h3, h4, h5, h6, h7⟩ := h
  cases h1
  refine ⟨el.drop m, _, c - m, by rw [List.length_drop], by rw [List.length_drop]; omega, by omega, fun e => ?_, h5.drop m, fun x hx => h6 x (List.mem_of_mem_drop hx), ?_⟩
  · cases a with
    | none => obtain ⟨e1, e2⟩ := h4 rfl; subst e1; simp at hm; simp [e2]
    | some a => split at e <;> cases e
  · rw [flatten_drop h6]
    by_cases hcm : c = m
    · left
      have hll := h5.len
      have : (l.drop m) = [] := List.drop_of_length_le (by omega)
      rw [List.drop_of_length_le]
      rw [flatten_len h6, hll]
      exact Nat.mul_le_mul_right k (by omega)
    · rw [if_neg hcm]
      refine h7.imp (fun e => by rw [e]; simp) ?_
      rintro ⟨b, o, e, hc⟩
      subst e
      refine ⟨b, o + m * k, by show some (Addr.add ⟨b, o, none⟩ (m * k)) = _; rw [Addr.add_mid], fun j u hu => ?_⟩
      rw [List.getElem?_drop] at hu
      have := hc _ u hu
      rwa [← Nat.add_assoc] at this
theorem SlW.len {a : Option Addr} {n c : Nat} (h : SlW w F k R (.slice a n c) l) : n = l.length := by
  obtain ⟨el, a', c', h1, _⟩ := h; cases h1; rfl
/-- Element i: its cells. -/
theorem SlW.get {a : Option Addr} {n c : Nat} (h : SlW w F k R (.slice a n c) l) (hk : 0 < k) {i : Nat} {p : α} (hp : l[i]? = some p) : ∃ b o cs, a = some ⟨b, o, none⟩ ∧ cs.length = k ∧ R F cs p ∧ w.rangeAt b (o + i * k) cs := by
  obtain ⟨el, a', c', h1, h2, h3, h4, h5, h6, h7⟩ := h
  cases h1
  obtain ⟨hi, rfl⟩ := List.getElem?_eq_some_iff.1 hp
  have hll := h5.len
  have hne : el.flatten ≠ [] := by
    intro e
    have := congrArg List.length e
    rw [flatten_len h6, hll] at this
    have := Nat.mul_pos (show 0 < l.length by omega) hk
    simp at *
    omega
  obtain ⟨b, o, e, hc⟩ := h7.resolve_left hne
  refine ⟨b, o, el[i]'(by omega), e, h6 _ (List.getElem_mem _), h5.get i (by omega) hi, fun j u hu => ?_⟩
  have hj : j < k := by
    have := (List.getElem?_eq_some_iff.1 hu).1
    rwa [h6 _ (List.getElem_mem _)] at this
  rw [Nat.add_assoc]
  exact hc _ _ (by rw [flatten_at h6 i (by omega) j hj]; exact hu)
end
section
variable {P : Program} {w0 w w' : World} {F0 F : Fz} {L : List Blk} {M : List RowP} {α : Type} {k base E : Nat} {R : Fz → List Value → α → Prop} {hR : ∀ F F' x p, Le F F' → R F x p → R F' x p} {v : Value} {l : List α}
/-- 'append(row, slice...)'. -/
theorem stAppendS {ops : Array Oper} {Q : Exit → Act → World → Prop} {a : Act} {rest : List Oper} {d : Option Tmp} {t T : TypeId} {x s : Operand} {pos : String} {after : Array Edge} {guard : Option (Nat × Bool)}
    {u : Value} {m : List α} {r : Nat} (S : St w0 F0 w F L M) (hw : Region.wanted ⟨d, .call ⟨.builtin .append, #[s, x], #[T, T]⟩, t, pos, after, guard⟩ (yielded ops a.tmps) = true)
    (inf : TypeInfo) (z : Value) (bytes : Nat) (ht : P.underlying T = some (.slice E)) (hi : P.info? E = some inf) (hz : inf.zero = some z) (hsize : inf.size = k) (hby : inf.bytes = bytes) (hzs : z.cells.size = k) (hsz : 0 < k)
    (hs : a.eval s = v) (hx : a.eval x = u) (hM : M[r]? = some (ownP k R hR E base v l)) (hu : SlW w F k R u m) (h1 : ∀ F cs p, R F cs p → ∀ u ∈ cs, u.oneCell' = true)
    (hb : w0.heap.size ≤ base) (hb2 : base ≤ w.heap.size) (h63 : l.length + m.length ≤ maxLen) (hbytes : (l.length + m.length) * bytes ≤ 140737488355328)
    (h : ∀ v' w', St w0 F0 w' F L (M.set r (ownP k R hR E base v' (l ++ m))) → (v' = .slice none 0 0 → l = [] ∧ m = []) → WL P ops Q rest (a.put d v') w') : WL P ops Q (⟨d, .call ⟨.builtin .append, #[s, x], #[T, T]⟩, t, pos, after, guard⟩ :: rest) a w := by
  obtain ⟨el, e1, e2, e3⟩ := (S.own hM).ex
  obtain ⟨nl, ad, c, rfl, q2, q3, q4, q5, q6, q7⟩ := hu
  have hnl := q5.len
  have hflat : nl.flatten.length = m.length * k := by rw [flatten_len q6, hnl]
  have hone : ∀ u ∈ nl.flatten, u.oneCell' = true := by
    intro u hu
    obtain ⟨y, hy, huy⟩ := List.mem_flatten.1 hu
    obtain ⟨i, hi', rfl⟩ := List.mem_iff_getElem.1 hy
    exact h1 _ _ _ (q5.get i hi' (by omega)) u huy
  cases ad with
  | none =>
    obtain ⟨hm0, hc0⟩ := q4 rfl
    subst hm0
    have hrun := run_append_owned_none (P := P) w base T t E inf k ht hi v l.length el.flatten e1
    refine do_ hw v ?_ (h v w ?_ (fun e => ?_))
    · simp only [execOp, resolve, invoke, builtin, Sem.run_bind, Sem.run_pure, Result.andThen_ok, List.map_toArray, List.map_cons, List.map_nil, hs, hx]
      simp only [List.length_nil, hc0]
      rw [hrun]; rfl
    · rw [List.append_nil]
      have : M.set r (ownP k R hR E base v l) = M := by
        obtain ⟨h1, h2⟩ := List.getElem?_eq_some_iff.1 hM
        rw [← h2]; simp
      rw [this]; exact S
    · refine ⟨?_, rfl⟩
      subst e
      obtain ⟨_, ⟨_, h0⟩ | ⟨_, _, _, h0, _⟩⟩ := e1
      · exact List.eq_nil_of_length_eq_zero h0
      · cases h0
  | some ad =>
    have hnews : ∀ j u, nl.flatten[j]? = some u → w.cell? (ad.add j) = some u := by
      intro j u hu
      rcases q7 with q7 | ⟨b, o, e, hc⟩
      · rw [q7] at hu; simp at hu
      · cases e; rw [Addr.add_mid]; exact hc j u hu
    obtain ⟨v', w', hrun, h2, h3, h4, h5⟩ := run_append_own_at (P := P) w base T t E inf z k bytes ht hi hz hsize hby hzs hsz v l.length el.flatten e1 ad m.length c nl.flatten hflat hnews hone h63 hbytes hb2
    have hf : ∀ g, v'.ownBlock = some g → v.ownBlock = some g ∨ w.heap.size ≤ g := by
      intro g hg
      rcases h5 with h5 | h5
      · left; rw [← h5]; exact hg
      · right; rw [h5] at hg; cases hg; exact Nat.le_refl _
    have hout : ∀ g, v'.ownBlock = some g → F g = none := by
      intro g hg
      rcases h5 with h5 | h5
      · exact (S.own hM).out g (by rw [← h5]; exact hg)
      · rw [h5] at hg; cases hg; exact S.sat.out (Nat.le_refl _)
    have hown : Own k R E base w' F v' (l ++ m) := by
      refine ⟨⟨el ++ nl, ?_, e2.append q5, fun y hy => ?_⟩, hout⟩
      · rw [List.flatten_append, List.length_append]; exact h2
      · rcases List.mem_append.1 hy with hy | hy
        · exact e3 y hy
        · exact q6 y hy
    refine do_ hw v' ?_ (h v' w' (S.grown hM hb h3 hown hf) (fun e => ?_))
    · simp only [execOp, resolve, invoke, builtin, Sem.run_bind, Sem.run_pure, Result.andThen_ok, List.map_toArray, List.map_cons, List.map_nil, hs, hx, hrun]
    · obtain ⟨h6, h7⟩ := h4.1 e
      subst h6
      obtain ⟨_, ⟨_, h0⟩ | ⟨_, _, _, h0, _⟩⟩ := e1
      · exact ⟨List.eq_nil_of_length_eq_zero h0, List.eq_nil_of_length_eq_zero h7⟩
      · cases h0
theorem Own.form (h : Own k R E base w F v l) (hn : 0 < l.length) : ∃ g cap, v = .slice (some ⟨g, 0, none⟩) l.length cap ∧ l.length ≤ cap ∧ cap ≤ maxLen ∧ ∃ cur : Array Value, w.heap[g]? = some (.cells cur E (0, 0)) ∧ cur.size = cap * k := by
  obtain ⟨el, ⟨_, ⟨_, h0⟩ | ⟨g, cap, cur, rfl, _, hg, q1, q2, q3, q4⟩⟩, _⟩ := h.ex
  · omega
  · exact ⟨g, cap, rfl, q1, q2, cur, hg, q3⟩
theorem allR_set {xs : List (List Value)} {ps : List α} (h : AllR (R F) xs ps) {i : Nat} {x : List Value} {p : α} (hx : R F x p) : AllR (R F) (xs.set i x) (ps.set i p) := by
  refine AllR.of_get (by simp [h.len]) fun j h1 h2 => ?_
  rw [List.getElem_set, List.getElem_set]
  split
  · exact hx
  · exact h.get j (by simpa using h1) (by simpa using h2)
theorem flatten_set {el : List (List Value)} (h3 : ∀ x ∈ el, x.length = k) {i : Nat} (hi : i < el.length) {x : List Value} (hx : x.length = k) : (el.set i x).flatten = splice el.flatten (i * k) x := by
  induction el generalizing i with
  | nil => simp at hi
  | cons y el ih =>
    have hy := h3 y (by simp)
    cases i with
    | zero =>
      unfold splice
      simp [hx]
      rw [List.drop_append, hy, Nat.sub_self, List.drop_of_length_le (by omega)]
      simp
    | succ i =>
      have ih' := ih (fun z hz => h3 z (by simp [hz])) (i := i) (by simpa using hi)
      simp only [List.set_cons_succ, List.flatten_cons]
      rw [ih']
      unfold splice
      rw [hx, Nat.add_mul, Nat.one_mul, List.take_append, List.drop_append, hy, show i * k + k - k = i * k from by omega, show i * k + k + k - k = i * k + k from by omega, List.take_of_length_le (show y.length ≤ i * k + k by omega), List.drop_of_length_le (show y.length ≤ i * k + k + k by omega)]
      simp
/-- 'row[i] = x'. -/
theorem stSetRow {ops : Array Oper} {Q : Exit → Act → World → Prop} {a : Act} {rest : List Oper} {d : Option Tmp} {t T : TypeId} {x y : Operand} {pos : String} {after : Array Edge} {guard : Option (Nat × Bool)} {r g cap i o n : Nat} {u : Value} {p : α} (S : St w0 F0 w F L M)
    (hw : Region.wanted ⟨d, .store T x y, t, pos, after, guard⟩ (yielded ops a.tmps) = true) (hx : a.eval x = .pointer (some ⟨g, o, none⟩)) (ho : o = i * k) (hy : a.eval y = u) (hM : M[r]? = some (ownP k R hR E base (.slice (some ⟨g, 0, none⟩) n cap) l)) (hil : i < l.length)
    (hi : (P.info? T).map (·.size) = some u.cells.size) (h1 : u.cells.all (·.oneCell') = true) (hk : u.cells.size = k) (hp : R F u.cells.toList p) (hb : w0.heap.size ≤ base)
    (h : ∀ w', St w0 F0 w' F L (M.set r (ownP k R hR E base (.slice (some ⟨g, 0, none⟩) n cap) (l.set i p))) → WL P ops Q rest (a.put d undef) w') : WL P ops Q (⟨d, .store T x y, t, pos, after, guard⟩ :: rest) a w := by
  obtain ⟨el, ⟨e1, e2⟩, h2, h3⟩ := (S.own hM).ex
  have hll := h2.len
  subst ho
  rcases e2 with ⟨e2, _⟩ | ⟨g', cap', cur, e2, q0, hg, q1, q2, q3, q4⟩
  · cases e2
  · injection e2 with e2 e2n e2c
    injection e2 with e2
    injection e2 with e2
    subst e2; subst e2n; subst e2c
    have hcl : cur.toList.length = cap * k := by simpa using q3
    have hkl : (i + 1) * k ≤ cap * k := Nat.mul_le_mul_right k (by omega)
    have hle : i * k + u.cells.size ≤ cur.toList.length := by rw [hcl, hk]; rw [Nat.add_mul] at hkl; omega
    have ht : w.there g (i * k) u.cells.size := by
      intro j hj
      have : i * k + j < cur.size := by simp at hle; omega
      exact ⟨by simp [World.cell?, hg, this], by simp [World.frozen?, hg]⟩
    have hst := storeV (P := P) (T := T) (v := u) hi ht h1
    have hm0 := (List.getElem?_eq_some_iff.1 hM)
    have hgrown : w.grownBy (w.setCells g (i * k) u.cells.toList) (Value.slice (some ⟨g, 0, none⟩) l.length cap).ownBlock := by
      have hb' := below_setCells (B := 0) (Nat.zero_le g) u.cells.toList (i * k) w w (Below.refl 0 w)
      exact ⟨hb'.os, hb'.tape, hb'.output, hb'.size, fun b hb1 hb2 => heap_setCells_past _ _ _ (fun e => hb2 (by rw [e]; rfl))⟩
    have hheap := heap_setCells (n := g) (T := E) (fr := (0, 0)) u.cells.toList (i * k) w cur.toList (by simpa using hg) (by simpa using hle)
    have hown : Own k R E base (w.setCells g (i * k) u.cells.toList) F (.slice (some ⟨g, 0, none⟩) l.length cap) (l.set i p) := by
      refine ⟨⟨el.set i u.cells.toList, ⟨?_, .inr ⟨g, cap, _, by rw [List.length_set], q0, hheap, by rw [List.length_set]; exact q1, q2, ?_, ?_⟩⟩, allR_set h2 hp, fun y hy => ?_⟩, (S.own hM).out⟩
      · rw [flatten_len (fun y hy => ?_), List.length_set, List.length_set, hll]
        rcases List.mem_or_eq_of_mem_set hy with hy | rfl
        · exact h3 y hy
        · simpa using hk
      · rw [List.size_toArray, splice_len (by simpa using hle), hcl]
      · rw [List.length_set, flatten_set h3 (by omega) (by simpa using hk), ← q4]
        unfold splice
        have hx' : u.cells.toList.length = k := by simpa using hk
        have hkk : i * k + k ≤ l.length * k := by have := Nat.mul_le_mul_right k (show i + 1 ≤ l.length by omega); rw [Nat.add_mul] at this; omega
        have hcl2 : cap * k ≤ cur.toList.length := by omega
        have hlk : l.length * k ≤ cap * k := Nat.mul_le_mul_right k q1
        apply List.ext_getElem?
        intro j
        simp only [List.getElem?_append, List.getElem?_take, List.getElem?_drop, List.length_take, List.length_append, hx']
        grind
      · rcases List.mem_or_eq_of_mem_set hy with hy | rfl
        · exact h3 y hy
        · simpa using hk
    refine doS hw (ex_store hx (by rw [hy]; exact hst)) (h _ (S.grown hM hb hgrown hown (fun g' hg' => .inl hg')))
end
end Go.Proofs.Yteefnnnbbmbmcaa
