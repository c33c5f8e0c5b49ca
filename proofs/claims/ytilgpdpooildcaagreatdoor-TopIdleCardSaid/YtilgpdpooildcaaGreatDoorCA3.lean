/- Rules, plain laws and walks: S3 S4 S5 S6 TY TI R2 N1 P10 P11 T1a T1b T2 T3 S7 -/
import Derived.Test.YtilgpdpooildcaaGreatDoorCA2
import Derived.Maps.AppendAt
import Derived.Laws.IdiomCopy
import Derived.ArgAppend
import Derived.Lib.AppendZerosOnto
import Derived.Lib.Overlaps
import Derived.Laws.MakeOwn
import Derived.Test.YtilgpdpooildcaaGreatDoorCA1
import Derived.Lib.SmallJoins
import Derived.Lib.Bytealg
namespace Go.Proofs.YtilgpdpooildcaaGreatDoor
set_option maxHeartbeats 8000000
open Go.RowKit
set_option linter.unusedVariables false
def SlW {α : Type} (w : World) (F : Fz) (k : Nat) (R : Fz → List Value → α → Prop) (v : Value) (l : List α) : Prop :=
  ∃ (el : List (List Value)) (a : Option Addr) (c : Nat), v = .slice a l.length c ∧ l.length ≤ c ∧ c ≤ maxLen ∧ (a = none → l = [] ∧ c = 0) ∧ AllR (R F) el l ∧ (∀ x ∈ el, x.length = k) ∧
    (el.flatten = [] ∨ ∃ b o, a = some ⟨b, o, none⟩ ∧ ∀ j u, el.flatten[j]? = some u → w.cell? ⟨b, o + j, none⟩ = some u)
section
variable {α : Type} {w w' : World} {F F' : Fz} {k : Nat} {R : Fz → List Value → α → Prop} {v : Value} {l : List α}
theorem Sl.toW (h : Sl k R F v l) (hs : Sat w F) : SlW w F k R v l := by
 obtain ⟨el, ⟨a, c, h1, h2, h3, h4, h5⟩, h6, h7⟩ := h
 refine ⟨el, a, c, h1, h2, h3, fun e => ⟨List.eq_nil_of_length_eq_zero (h4 e).1, (h4 e).2⟩, h6, h7, h5.imp id ?_⟩
 rintro ⟨b, o, e, hc⟩
 exact ⟨b, o, e, fun j u hu => hs.cell (hc j u hu)⟩
theorem Own.toW {E base : Nat} (h : Own k R E base w F v l) : SlW w F k R v l := by
 obtain ⟨el, ⟨e1, e2⟩, h2, h3⟩ := h.ex
 rcases e2 with ⟨rfl, h0⟩ | ⟨g, cap, cur, rfl, hb, hg, q1, q2, q3, q4⟩
 have hl : l = [] := List.eq_nil_of_length_eq_zero h0
 subst hl
 exact ⟨el, none, 0, rfl, by simp, Nat.zero_le _, fun _ => ⟨rfl, rfl⟩, h2, h3, .inl (List.eq_nil_of_length_eq_zero (by simpa using e1))⟩
 refine ⟨el, _, cap, rfl, q1, q2, (fun e => by cases e), h2, h3, .inr ⟨g, 0, rfl, fun j u hu => ?_⟩⟩
 rw [← q4, List.getElem?_take] at hu
 split at hu
 rw [Nat.zero_add]; simp only [World.cell?, hg]; simpa using hu
 cases hu
theorem rV {el : List (List Value)} (h3 : ∀ x ∈ el, x.length = k) (m : Nat) : (el.take m).flatten = el.flatten.take (m * k) := by
 induction el generalizing m with
 | nil => simp
 | cons x el ih =>
  cases m with
  | zero => simp
  | succ m =>
   have hx := h3 x (by simp)
   simp only [List.take_succ_cons, List.flatten_cons]
   rw [ih (fun y hy => h3 y (by simp [hy])), Nat.add_mul, Nat.one_mul, List.take_append, hx, show m * k + k - k = m * k from by omega, List.take_of_length_le (show x.length ≤ m * k + k by omega)]
theorem rW {el : List (List Value)} (h3 : ∀ x ∈ el, x.length = k) (m : Nat) : (el.drop m).flatten = el.flatten.drop (m * k) := by
 induction el generalizing m with
 | nil => simp
 | cons x el ih =>
  cases m with
  | zero => simp
  | succ m =>
   have hx := h3 x (by simp)
   simp only [List.drop_succ_cons, List.flatten_cons]
   rw [ih (fun y hy => h3 y (by simp [hy])), Nat.add_mul, Nat.one_mul, List.drop_append, hx, show m * k + k - k = m * k from by omega, List.drop_of_length_le (show x.length ≤ m * k + k by omega)]
   simp
theorem SlW.len {a : Option Addr} {n c : Nat} (h : SlW w F k R (.slice a n c) l) : n = l.length := by
 obtain ⟨el, a', c', h1, _⟩ := h; cases h1; rfl
end
section
variable {P : Program} {w0 w w' : World} {F0 F : Fz} {L : List Blk} {M : List RowP} {α : Type} {k base E : Nat} {R : Fz → List Value → α → Prop} {hR : ∀ F F' x p, Le F F' → R F x p → R F' x p} {v : Value} {l : List α}
theorem dW {ops : Array Oper} {Q : Exit → Act → World → Prop} {a : Act} {rest : List Oper} {d : Option Tmp} {t T : TypeId} {x s : Operand} {pos : String} {after : Array Edge} {guard : Option (Nat × Bool)}
    {u : Value} {m : List α} {r : Nat} (S : St w0 F0 w F L M) (hw : Region.wanted ⟨d, .call ⟨.builtin .append, #[s, x], #[T, T]⟩, t, pos, after, guard⟩ (yielded ops a.tmps) = true)
    (inf : TypeInfo) (z : Value) (bytes : Nat) (ht : P.underlying T = some (.slice E)) (hi : P.info? E = some inf) (hz : inf.zero = some z) (hsize : inf.size = k) (hby : inf.bytes = bytes) (hzs : z.cells.size = k) (hsz : 0 < k)
    (hs : a.eval s = v) (hx : a.eval x = u) (hM : M[r]? = some (cN k R hR E base v l)) (hu : SlW w F k R u m) (h1 : ∀ F cs p, R F cs p → ∀ u ∈ cs, u.oneCell' = true)
    (hb : w0.heap.size ≤ base) (hb2 : base ≤ w.heap.size) (a0 : l.length + m.length ≤ maxLen) (hbytes : (l.length + m.length) * bytes ≤ 140737488355328)
    (h : ∀ v' w', St w0 F0 w' F L (M.set r (cN k R hR E base v' (l ++ m))) → (v' = .slice none 0 0 → l = [] ∧ m = []) → WL P ops Q rest (a.put d v') w') : WL P ops Q (⟨d, .call ⟨.builtin .append, #[s, x], #[T, T]⟩, t, pos, after, guard⟩ :: rest) a w := by
 obtain ⟨el, e1, e2, e3⟩ := (S.own hM).ex
 obtain ⟨nl, ad, c, rfl, q2, q3, q4, q5, q6, q7⟩ := hu
 have hnl := q5.len
 have hflat : nl.flatten.length = m.length * k := by rw [fR q6, hnl]
 have hone : ∀ u ∈ nl.flatten, u.oneCell' = true := by
  intro u hu
  obtain ⟨y, hy, huy⟩ := List.mem_flatten.1 hu
  obtain ⟨i, hi', rfl⟩ := List.mem_iff_getElem.1 hy
  exact h1 _ _ _ (q5.get i hi' (by omega)) u huy
 cases ad with
 | none =>
  obtain ⟨hm0, hc0⟩ := q4 rfl
  subst hm0
  have hrun := run_append_owned_none (P := P) w base T t E inf k ht hi v l.length el.flatten e1
  refine do_ hw v ?_ (h v w ?_ (fun e => ?_))
  simp only [execOp, resolve, invoke, builtin, Sem.run_bind, Sem.run_pure, Result.andThen_ok, List.map_toArray, List.map_cons, List.map_nil, hs, hx]
  simp only [List.length_nil, hc0]
  rw [hrun]; rfl
  rw [List.append_nil]
  have : M.set r (cN k R hR E base v l) = M := by
   obtain ⟨h1, h2⟩ := List.getElem?_eq_some_iff.1 hM
   rw [← h2]; simp
  rw [this]; exact S
  refine ⟨?_, rfl⟩
  subst e
  obtain ⟨_, ⟨_, h0⟩ | ⟨_, _, _, h0, _⟩⟩ := e1
  exact List.eq_nil_of_length_eq_zero h0
  cases h0
 | some ad =>
  have hnews : ∀ j u, nl.flatten[j]? = some u → w.cell? (ad.add j) = some u := by
   intro j u hu
   rcases q7 with q7 | ⟨b, o, e, hc⟩
   rw [q7] at hu; simp at hu
   cases e; rw [Addr.add_mid]; exact hc j u hu
  obtain ⟨v', w', hrun, h2, h3, h4, h5⟩ := run_append_own_at (P := P) w base T t E inf z k bytes ht hi hz hsize hby hzs hsz v l.length el.flatten e1 ad m.length c nl.flatten hflat hnews hone a0 hbytes hb2
  have hf : ∀ g, v'.ownBlock = some g → v.ownBlock = some g ∨ w.heap.size ≤ g := by
   intro g hg
   rcases h5 with h5 | h5
   left; rw [← h5]; exact hg
   right; rw [h5] at hg; cases hg; exact Nat.le_refl _
  have hout : ∀ g, v'.ownBlock = some g → F g = none := by
   intro g hg
   rcases h5 with h5 | h5
   exact (S.own hM).out g (by rw [← h5]; exact hg)
   rw [h5] at hg; cases hg; exact S.sat.out (Nat.le_refl _)
  have hown : Own k R E base w' F v' (l ++ m) := by
   refine ⟨⟨el ++ nl, ?_, e2.append q5, fun y hy => ?_⟩, hout⟩
   rw [List.flatten_append, List.length_append]; exact h2
   rcases List.mem_append.1 hy with hy | hy
   exact e3 y hy
   exact q6 y hy
  refine do_ hw v' ?_ (h v' w' (S.grown hM hb h3 hown hf) (fun e => ?_))
  simp only [execOp, resolve, invoke, builtin, Sem.run_bind, Sem.run_pure, Result.andThen_ok, List.map_toArray, List.map_cons, List.map_nil, hs, hx, hrun]
  obtain ⟨h6, h7⟩ := h4.1 e
  subst h6
  obtain ⟨_, ⟨_, h0⟩ | ⟨_, _, _, h0, _⟩⟩ := e1
  exact ⟨List.eq_nil_of_length_eq_zero h0, List.eq_nil_of_length_eq_zero h7⟩
  cases h0
theorem Own.form (h : Own k R E base w F v l) (hn : 0 < l.length) : ∃ g cap, v = .slice (some ⟨g, 0, none⟩) l.length cap ∧ l.length ≤ cap ∧ cap ≤ maxLen ∧ ∃ cur : Array Value, w.heap[g]? = some (.cells cur E (0, 0)) ∧ cur.size = cap * k := by
 obtain ⟨el, ⟨_, ⟨_, h0⟩ | ⟨g, cap, cur, rfl, _, hg, q1, q2, q3, q4⟩⟩, _⟩ := h.ex
 ·omega
 ·exact ⟨g, cap, rfl, q1, q2, cur, hg, q3⟩
theorem MW {xs : List (List Value)} {ps : List α} (h : AllR (R F) xs ps) {i : Nat} {x : List Value} {p : α} (hx : R F x p) : AllR (R F) (xs.set i x) (ps.set i p) := by
 refine AllR.of_get (by simp [h.len]) fun j h1 h2 => ?_
 rw [List.getElem_set, List.getElem_set]
 split
 exact hx
 exact h.get j (by simpa using h1) (by simpa using h2)
theorem AC {el : List (List Value)} (h3 : ∀ x ∈ el, x.length = k) {i : Nat} (hi : i < el.length) {x : List Value} (hx : x.length = k) : (el.set i x).flatten = cK el.flatten (i * k) x := by
 induction el generalizing i with
 | nil => simp at hi
 | cons y el ih =>
  have hy := h3 y (by simp)
  cases i with
  | zero =>
   unfold cK
   simp [hx]
   rw [List.drop_append, hy, Nat.sub_self, List.drop_of_length_le (by omega)]
   simp
  | succ i =>
   have ih' := ih (fun z hz => h3 z (by simp [hz])) (i := i) (by simpa using hi)
   simp only [List.set_cons_succ, List.flatten_cons]
   rw [ih']
   unfold cK
   rw [hx, Nat.add_mul, Nat.one_mul, List.take_append, List.drop_append, hy, show i * k + k - k = i * k from by omega, show i * k + k + k - k = i * k + k from by omega, List.take_of_length_le (show y.length ≤ i * k + k by omega), List.drop_of_length_le (show y.length ≤ i * k + k + k by omega)]
   simp
theorem DH {ops : Array Oper} {Q : Exit → Act → World → Prop} {a : Act} {rest : List Oper} {d : Option Tmp} {t T : TypeId} {x y : Operand} {pos : String} {after : Array Edge} {guard : Option (Nat × Bool)} {r g cap i o n : Nat} {u : Value} {p : α} (S : St w0 F0 w F L M)
    (hw : Region.wanted ⟨d, .store T x y, t, pos, after, guard⟩ (yielded ops a.tmps) = true) (hx : a.eval x = .pointer (some ⟨g, o, none⟩)) (ho : o = i * k) (hy : a.eval y = u) (hM : M[r]? = some (cN k R hR E base (.slice (some ⟨g, 0, none⟩) n cap) l)) (hil : i < l.length)
    (hi : (P.info? T).map (·.size) = some u.cells.size) (h1 : u.cells.all (·.oneCell') = true) (hk : u.cells.size = k) (hp : R F u.cells.toList p) (hb : w0.heap.size ≤ base)
    (h : ∀ w', St w0 F0 w' F L (M.set r (cN k R hR E base (.slice (some ⟨g, 0, none⟩) n cap) (l.set i p))) → WL P ops Q rest (a.put d undef) w') : WL P ops Q (⟨d, .store T x y, t, pos, after, guard⟩ :: rest) a w := by
 obtain ⟨el, ⟨e1, e2⟩, h2, h3⟩ := (S.own hM).ex
 have hll := h2.len
 subst ho
 rcases e2 with ⟨e2, _⟩ | ⟨g', cap', cur, e2, q0, hg, q1, q2, q3, q4⟩
 cases e2
 injection e2 with e2 e2n e2c
 injection e2 with e2
 injection e2 with e2
 subst e2; subst e2n; subst e2c
 have hcl : cur.toList.length = cap * k := by simpa using q3
 have hkl : (i + 1) * k ≤ cap * k := Nat.mul_le_mul_right k (by omega)
 have hle : i * k + u.cells.size ≤ cur.toList.length := by rw [hcl, hk]; rw [Nat.add_mul] at hkl; omega
 have ht : w.there g (i * k) u.cells.size := by
  intro j hj
  have : i * k + j < cur.size := by simp at hle; omega
  exact ⟨by simp [World.cell?, hg, this], by simp [World.frozen?, hg]⟩
 have hst := IU (P := P) (T := T) (v := u) hi ht h1
 have hm0 := (List.getElem?_eq_some_iff.1 hM)
 have hgrown : w.grownBy (w.setCells g (i * k) u.cells.toList) (Value.slice (some ⟨g, 0, none⟩) l.length cap).ownBlock := by
  have hb' := lQ (B := 0) (Nat.zero_le g) u.cells.toList (i * k) w w (Below.refl 0 w)
  exact ⟨hb'.os, hb'.tape, hb'.output, hb'.size, fun b hb1 hb2 => gL _ _ _ (fun e => hb2 (by rw [e]; rfl))⟩
 have hheap := mT (n := g) (T := E) (fr := (0, 0)) u.cells.toList (i * k) w cur.toList (by simpa using hg) (by simpa using hle)
 have hown : Own k R E base (w.setCells g (i * k) u.cells.toList) F (.slice (some ⟨g, 0, none⟩) l.length cap) (l.set i p) := by
  refine ⟨⟨el.set i u.cells.toList, ⟨?_, .inr ⟨g, cap, _, by rw [List.length_set], q0, hheap, by rw [List.length_set]; exact q1, q2, ?_, ?_⟩⟩, MW h2 hp, fun y hy => ?_⟩, (S.own hM).out⟩
  rw [fR (fun y hy => ?_), List.length_set, List.length_set, hll]
  rcases List.mem_or_eq_of_mem_set hy with hy | rfl
  exact h3 y hy
  simpa using hk
  rw [List.size_toArray, cO (by simpa using hle), hcl]
  rw [List.length_set, AC h3 (by omega) (by simpa using hk), ← q4]
  unfold cK
  have hx' : u.cells.toList.length = k := by simpa using hk
  have hkk : i * k + k ≤ l.length * k := by have := Nat.mul_le_mul_right k (show i + 1 ≤ l.length by omega); rw [Nat.add_mul] at this; omega
  have hcl2 : cap * k ≤ cur.toList.length := by omega
  have hlk : l.length * k ≤ cap * k := Nat.mul_le_mul_right k q1
  apply List.ext_getElem?
  intro j
  simp only [List.getElem?_append, List.getElem?_take, List.getElem?_drop, List.length_take, List.length_append, hx']
  grind
  rcases List.mem_or_eq_of_mem_set hy with hy | rfl
  exact h3 y hy
  simpa using hk
 refine doS hw (xO hx (by rw [hy]; exact hst)) (h _ (S.grown hM hb hgrown hown (fun g' hg' => .inl hg')))
end
section
variable {P : Program} {w0 w w' : World} {F0 F : Fz} {L : List Blk} {M : List RowP} {α : Type} {k base E : Nat} {R : Fz → List Value → α → Prop} {hR : ∀ F F' x p, Le F F' → R F x p → R F' x p} {v : Value} {l : List α}
theorem St.other (S : St w0 F0 w F L M) {r : Nat} {p : RowP} (hM : M[r]? = some p) : ∀ s ∈ M.eraseIdx r, ∀ g, p.ob = some g → s.ob ≠ some g := by
 obtain ⟨hi, he⟩ := List.getElem?_eq_some_iff.1 hM
 intro s hs g hg hc
 obtain ⟨k', hk, rfl⟩ := List.mem_iff_getElem.1 hs
 have hp := List.pairwise_iff_getElem.1 S.rr
 rw [List.length_eraseIdx, if_pos hi] at hk
 rw [List.getElem_eraseIdx] at hc
 split at hc
 ·rename_i hlt
  have := hp k' r (by omega) hi hlt g hc; rw [he] at this; exact this hg
 ·rename_i hge
  have := hp r (k' + 1) hi (by omega) (by omega) g (by rw [he]; exact hg); exact this hc
theorem St.rowBlk {r g n cap : Nat} (S : St w0 F0 w F L M) (hM : M[r]? = some (cN k R hR E base (.slice (some ⟨g, 0, none⟩) n cap) l)) :
    ∃ c el, St w0 F0 w F (⟨g, c, E⟩ :: L) (M.eraseIdx r) ∧ n = l.length ∧ n ≤ cap ∧ cap ≤ maxLen ∧ c.length = cap * k ∧ c.take (n * k) = el.flatten ∧ AllR (R F) el l ∧ (∀ x ∈ el, x.length = k) ∧ base ≤ g := by
 have hown := S.own hM
 obtain ⟨hi, he⟩ := List.getElem?_eq_some_iff.1 hM
 have hm : cN k R hR E base (.slice (some ⟨g, 0, none⟩) n cap) l ∈ M := by rw [← he]; exact List.getElem_mem hi
 obtain ⟨el, ⟨e1, e2⟩, h2, h3⟩ := hown.ex
 have hsub := List.eraseIdx_sublist M r
 have hr0 := (S.row _ hm).2 g rfl
 rcases e2 with ⟨e2, _⟩ | ⟨g', cap', cur, e2, q0, hg, q1, q2, q3, q4⟩
 cases e2
 injection e2 with e2 e2n e2c
 injection e2 with e2
 injection e2 with e2
 subst e2; subst e2n; subst e2c
 refine ⟨cur.toList, el, ⟨S.gr, fun x hx => ?_, fun s hs => S.row s (hsub.subset hs), ?_, fun s hs x hx => ?_, S.rr.sublist hsub⟩, rfl, q1, q2, by simpa using q3, q4, h2, h3, q0⟩
 rcases List.mem_cons.1 hx with rfl | hx
 exact ⟨by simpa using hg, hr0.2.1, hr0.2.2⟩
 exact S.blk x hx
 exact List.pairwise_cons.2 ⟨fun x hx e => S.rb _ hm x hx (congrArg some e), S.bb⟩
 rcases List.mem_cons.1 hx with rfl | hx
 exact S.other hM s hs g rfl
 exact S.rb s (hsub.subset hs) x hx
theorem St.blkRow {g cap : Nat} {c : List Value} (S : St w0 F0 w F (⟨g, c, E⟩ :: L) M) {el : List (List Value)} (hc : c.take (l.length * k) = el.flatten) (h2 : AllR (R F) el l) (h3 : ∀ x ∈ el, x.length = k) (h4 : c.length = cap * k) (h5 : l.length ≤ cap) (h6 : cap ≤ maxLen) (hb : base ≤ g) : St w0 F0 w F L (cN k R hR E base (.slice (some ⟨g, 0, none⟩) l.length cap) l :: M) := by
 have hb0 := S.blk ⟨g, c, E⟩ (by simp)
 have hbb := List.pairwise_cons.1 S.bb
 refine ⟨S.gr, fun x hx => S.blk x (by simp [hx]), fun r hr => ?_, hbb.2, fun r hr x hx => ?_, List.pairwise_cons.2 ⟨fun s hs b hb' hc' => ?_, S.rr⟩⟩
 rcases List.mem_cons.1 hr with rfl | hr
 refine ⟨⟨⟨el, ⟨?_, .inr ⟨g, cap, c.toArray, rfl, hb, hb0.1, h5, h6, by simpa using h4, by simpa using hc⟩⟩, h2, h3⟩, fun b e => ?_⟩, fun b e => ?_⟩
 rw [fR h3, h2.len]
 cases e; exact hb0.2.1
 cases e; exact ⟨S.blk_lt (x := ⟨g, c, E⟩) (by simp), hb0.2⟩
 exact S.row r hr
 rcases List.mem_cons.1 hr with rfl | hr
 intro e; cases e; exact hbb.1 x hx rfl
 exact S.rb r hr x (by simp [hx])
 cases hb'; exact S.rb s hs ⟨g, c, E⟩ (by simp) hc'
theorem VW (w : World) (dT sT ty elem : TypeId) (b o dLen dCap k : Nat) (a : Addr) (sLen sCap m : Nat) (cs : List Value)
    (hu : P.underlying dT = some (.slice elem)) (hs : (P.info? elem).map (·.size) = some k) (hn : Nat.min sLen dLen = m) (hl : cs.length = m * k)
    (hsrc : ∀ j v, cs[j]? = some v → w.cell? (a.add j) = some v) (ht : w.there b o cs.length) (h1 : ∀ v ∈ cs, v.oneCell' = true) :
    (Builtin.copy_ #[dT, sT] ty #[.slice (some ⟨b, o, none⟩) dLen dCap, .slice (some a) sLen sCap]).run P w = .ok (.int .i64 (m : Int)) (w.setCells b o cs) := by
 have hf := run_firstCells_some (P := P) w k m a sLen sCap cs hl hsrc
 have hst := run_storeCells_cells (P := P) b o cs 0 w (fun j hj => by simpa using (ht j hj).1) (fun j hj => by simpa using (ht j hj).2) h1
 cases hq : P.info? elem with
 | none => simp [hq] at hs
 | some i =>
  have hi : i.size = k := by simpa [hq] using hs
  simp [Builtin.copy_, run_underlying hu, Builtin.lenOf, sizeOf, typeInfo, hq, hi, hn, hf, hst]
  rfl
theorem tO {ops : Array Oper} {Q : Exit → Act → World → Prop} {a : Act} {rest : List Oper} {d : Option Tmp} {t dT sT elem : TypeId} {x y : Operand} {pos : String} {after : Array Edge} {guard : Option (Nat × Bool)} {i g j dl dc sl sc : Nat} {T : TypeId} {c : List Value} {ad : Addr} (m : Nat) (cs : List Value) (S : St w0 F0 w F L M)
    (hw : Region.wanted ⟨d, .call ⟨.builtin .copy, #[x, y], #[dT, sT]⟩, t, pos, after, guard⟩ (yielded ops a.tmps) = true) (hu : P.underlying dT = some (.slice elem)) (hz : (P.info? elem).map (·.size) = some k)
    (hx : a.eval x = .slice (some ⟨g, j, none⟩) dl dc) (hy : a.eval y = .slice (some ad) sl sc) (hL : L[i]? = some ⟨g, c, T⟩) (hm : Nat.min sl dl = m) (hl : cs.length = m * k) (hfit : j + cs.length ≤ c.length)
    (hsrc : ∀ q u, cs[q]? = some u → w.cell? (ad.add q) = some u) (h1 : ∀ u ∈ cs, u.oneCell' = true)
    (h : ∀ w', St w0 F0 w' F (L.set i ⟨g, cK c j cs, T⟩) M → WL P ops Q rest (a.put d (.int .i64 (m : Int))) w') : WL P ops Q (⟨d, .call ⟨.builtin .copy, #[x, y], #[dT, sT]⟩, t, pos, after, guard⟩ :: rest) a w := by
 have hrun := VW (P := P) w dT sT t elem g j dl dc k ad sl sc m cs hu hz hm hl hsrc (S.there hL j cs.length hfit) h1
 refine do_ hw _ ?_ (h _ (S.store hL j cs hfit))
 simp only [execOp, resolve, invoke, builtin, Sem.run_bind, Sem.run_pure, Result.andThen_ok, List.map_toArray, List.map_cons, List.map_nil, hx, hy, hrun]
theorem QY (w : World) (t e ty : TypeId) (z : Value) (ht : P.underlying t = some (.slice e)) (hv : ∀ w, (zeroValue e).run P w = .ok z w) (b o n c : Nat) (zs : List Value) (hz : (Builtin.zeroCells z.cells n).toList = zs) (hn : 0 < n)
    (hth : w.there b o zs.length) (h1 : ∀ v ∈ zs, v.oneCell' = true) :
    (Builtin.clear_ #[t] ty #[.slice (some ⟨b, o, none⟩) n c]).run P w = .ok (.tuple #[]) (w.setCells b o zs) := by
 have hst := run_storeCells_cells (P := P) b o zs 0 w (fun j hj => by simpa using (hth j hj).1) (fun j hj => by simpa using (hth j hj).2) h1
 simp only [Nat.add_zero] at hst
 obtain ⟨m, rfl⟩ : ∃ m, n = m + 1 := ⟨n - 1, by omega⟩
 simp [Builtin.clear_, run_underlying ht, hv, hz, hst]
theorem TO {ops : Array Oper} {Q : Exit → Act → World → Prop} {a : Act} {rest : List Oper} {d : Option Tmp} {t sT elem : TypeId} {x : Operand} {pos : String} {after : Array Edge} {guard : Option (Nat × Bool)} {i g j n cp : Nat} {T : TypeId} {c : List Value} (z : Value) (zs : List Value) (S : St w0 F0 w F L M)
    (hw : Region.wanted ⟨d, .call ⟨.builtin .clear, #[x], #[sT]⟩, t, pos, after, guard⟩ (yielded ops a.tmps) = true) (hu : P.underlying sT = some (.slice elem)) (hv : ∀ w, (zeroValue elem).run P w = .ok z w) (hz : (Builtin.zeroCells z.cells n).toList = zs)
    (hx : a.eval x = .slice (some ⟨g, j, none⟩) n cp) (hn : 0 < n) (hL : L[i]? = some ⟨g, c, T⟩) (hfit : j + zs.length ≤ c.length) (h1 : ∀ u ∈ zs, u.oneCell' = true)
    (h : ∀ w', St w0 F0 w' F (L.set i ⟨g, cK c j zs, T⟩) M → WL P ops Q rest (a.put d (.tuple #[])) w') : WL P ops Q (⟨d, .call ⟨.builtin .clear, #[x], #[sT]⟩, t, pos, after, guard⟩ :: rest) a w := by
 have hrun := QY (P := P) w sT elem t z hu hv g j n cp zs hz hn (S.there hL j zs.length hfit) h1
 refine do_ hw _ ?_ (h _ (S.store hL j zs hfit))
 simp only [execOp, resolve, invoke, builtin, Sem.run_bind, Sem.run_pure, Result.andThen_ok, List.map_toArray, List.map_cons, List.map_nil, hx, hrun]
theorem IY {ops : Array Oper} {Q : Exit → Act → World → Prop} {a : Act} {rest : List Oper} {d : Option Tmp} {t T E : TypeId} {x y : Operand} {pos : String} {after : Array Edge} {guard : Option (Nat × Bool)} {n m : Nat} (S : St w0 F0 w F L M)
    (hw : Region.wanted ⟨d, .makeSlice T x y, t, pos, after, guard⟩ (yielded ops a.tmps) = true) (inf : TypeInfo) (z : Value) (bytes : Nat) (ht : P.underlying T = some (.slice E)) (hi : P.info? E = some inf) (hz : inf.zero = some z) (hsize : inf.size = k) (hby : inf.bytes = bytes)
    (hx : a.eval x = .int .i64 (n : Int)) (hy : a.eval y = .int .i64 (m : Int)) (hnm : n ≤ m) (hb : bytes * m ≤ 281474976710656) (a0 : m ≤ 9223372036854775807)
    (h : ∀ g w', St w0 F0 w' F (⟨g, (madeCells z.cells (m * k)).toList, E⟩ :: L) M → WL P ops Q rest (a.put d (.slice (some ⟨g, 0, none⟩) n m)) w') : WL P ops Q (⟨d, .makeSlice T x y, t, pos, after, guard⟩ :: rest) a w := by
 subst hsize
 subst hby
 have hb' : (inf.bytes : Int) * (m : Int) ≤ 281474976710656 := by
  have h : ((inf.bytes * m : Nat) : Int) ≤ 281474976710656 := by omega
  rwa [Int.natCast_mul] at h
 have hrun := run_make (P := P) w T E inf z ht hi hz .i64 .i64 (n : Int) (m : Int) (by omega) (by omega) hb' (by omega)
 simp only [Int.toNat_natCast] at hrun
 refine do_ hw _ ?_ (h _ _ (S.alloc _ _))
 simp only [execOp, hx, hy, Sem.run_bind, hrun, Result.andThen_ok, Sem.run_pure]
theorem YQ {ops : Array Oper} {Q : Exit → Act → World → Prop} {a : Act} {rest : List Oper} {d : Option Tmp} {t T I E : TypeId} {x s : Operand} {pos : String} {after : Array Edge} {guard : Option (Nat × Bool)} {n m cap : Nat} {b : Addr} (nm : Nat) (olds : List Value) (S : St w0 F0 w F L M)
    (hw : Region.wanted ⟨d, .call ⟨.builtin .append, #[s, x], #[T, I]⟩, t, pos, after, guard⟩ (yielded ops a.tmps) = true)
    (inf : TypeInfo) (z : Value) (bytes : Nat) (ht : P.underlying T = some (.slice E)) (htI : P.underlying I = some (.int .i64)) (hi : P.info? E = some inf) (hz : inf.zero = some z) (hsize : inf.size = k) (hby : inf.bytes = bytes) (hzs : z.cells.size = k) (hk : 0 < k)
    (hs : a.eval s = .slice (some b) n cap) (hx : a.eval x = .int .i64 (m : Int)) (hm : 0 < m) (hlo : olds.length = n * k) (ho : ∀ q u, olds[q]? = some u → w.cell? (b.add q) = some u)
    (hnm : n + m = nm) (hgrow : cap < nm) (a0 : nm ≤ maxLen) (hbytes : nm * bytes ≤ 140737488355328)
    (h : ∀ g cap' news more w', nm ≤ cap' → cap' ≤ maxLen → news.length = m * k → (olds ++ news ++ more).length = cap' * k → St w0 F0 w' F (⟨g, olds ++ news ++ more, E⟩ :: L) M → WL P ops Q rest (a.put d (.slice (some ⟨g, 0, none⟩) nm cap')) w') : WL P ops Q (⟨d, .call ⟨.builtin .append, #[s, x], #[T, I]⟩, t, pos, after, guard⟩ :: rest) a w := by
 subst hnm
 subst hsize
 subst hby
 have hsmall : n + m ≤ 9223372036854775807 := by simp only [maxLen] at a0; omega
 have hold := run_firstCells_some (P := P) w.drew inf.size n b n cap olds hlo ho
 have hmb : m * inf.bytes ≤ 281474976710656 := by
  have := Nat.mul_le_mul_right inf.bytes (show m ≤ n + m by omega)
  omega
 have hrun := Lib.run_append_grow_zeros (P := P) w T I t E inf z .i64 .i64 ht htI hi hz (some b) n cap olds hold m hm hk hgrow (by omega) hmb (growslice_fits hgrow hbytes)
 have hge := grownCap_ge w (n + m) cap E
 have hcm : grownCap w (n + m) cap E ≤ maxLen := grownCap_le_maxLen w (n + m) cap E a0
 have S2 := (S.tells (show Below w.heap.size w w.drew from (Below.refl _ _).drew)).alloc (olds.toArray ++ Builtin.zeroCells z.cells m ++ Builtin.zeroCells z.cells (grownCap w (n + m) cap E - (n + m))) E
 have e : (olds.toArray ++ Builtin.zeroCells z.cells m ++ Builtin.zeroCells z.cells (grownCap w (n + m) cap E - (n + m))).toList = olds ++ (Builtin.zeroCells z.cells m).toList ++ (Builtin.zeroCells z.cells (grownCap w (n + m) cap E - (n + m))).toList := by simp
 rw [e] at S2
 have hnl : (Builtin.zeroCells z.cells m).toList.length = m * inf.size := by rw [Array.length_toList, size_zeroCells, hzs]
 refine do_ hw _ ?_ (h _ _ _ _ _ hge hcm hnl ?_ S2)
 simp only [execOp, resolve, invoke, builtin, Sem.run_bind, Sem.run_pure, Result.andThen_ok, List.map_toArray, List.map_cons, List.map_nil, hs, hx, hrun]
 rfl
 have hzl : (Builtin.zeroCells z.cells (grownCap w (n + m) cap E - (n + m))).toList.length = (grownCap w (n + m) cap E - (n + m)) * inf.size := by rw [Array.length_toList, size_zeroCells, hzs]
 rw [List.length_append, List.length_append, hlo, hnl, hzl, ← Nat.add_mul, ← Nat.add_mul]
 congr 1
 omega
theorem YR {ops : Array Oper} {Q : Exit → Act → World → Prop} {a : Act} {rest : List Oper} {d : Option Tmp} {t T E : TypeId} {x s : Operand} {pos : String} {after : Array Edge} {guard : Option (Nat × Bool)} {i g n m cap cp : Nat} {ad : Addr} {c : List Value} {T' : TypeId} (nm : Nat) (news : List Value) (S : St w0 F0 w F L M)
    (hw : Region.wanted ⟨d, .call ⟨.builtin .append, #[s, x], #[T, T]⟩, t, pos, after, guard⟩ (yielded ops a.tmps) = true)
    (inf : TypeInfo) (ht : P.underlying T = some (.slice E)) (hi : P.info? E = some inf) (hsize : inf.size = k)
    (hs : a.eval s = .slice (some ⟨g, 0, none⟩) n cap) (hx : a.eval x = .slice (some ad) m cp) (hL : L[i]? = some ⟨g, c, T'⟩) (hln : news.length = m * k) (hn : ∀ q u, news[q]? = some u → w.cell? (ad.add q) = some u) (h1 : ∀ u ∈ news, u.oneCell' = true)
    (hnm : n + m = nm) (hroom : nm ≤ cap) (hfit : n * k + news.length ≤ c.length)
    (h : ∀ w', St w0 F0 w' F (L.set i ⟨g, cK c (n * k) news, T'⟩) M → WL P ops Q rest (a.put d (.slice (some ⟨g, 0, none⟩) nm cap)) w') : WL P ops Q (⟨d, .call ⟨.builtin .append, #[s, x], #[T, T]⟩, t, pos, after, guard⟩ :: rest) a w := by
 subst hnm
 subst hsize
 have ht0 := S.there hL (n * inf.size) news.length hfit
 have hrun := run_append_room_cells (P := P) w T t E inf ht hi g 0 n cap ad m cp news hln hn h1 hroom (fun j hj => by simpa using (ht0 j hj).1) (fun j hj => by simpa using (ht0 j hj).2)
 rw [Nat.zero_add] at hrun
 refine do_ hw _ ?_ (h _ (S.store hL (n * inf.size) news hfit))
 simp only [execOp, resolve, invoke, builtin, Sem.run_bind, Sem.run_pure, Result.andThen_ok, List.map_toArray, List.map_cons, List.map_nil, hs, hx, hrun]
end
theorem xR {P : Program} {w0 w : World} {F0 F : Fz} {ops : Array Oper} {Q : Exit → Act → World → Prop} {a : Act} {rest : List Oper} {o : Oper} {k : FuncId} {vs : Array Value} {L : List Blk} {M : Value → List RowP} (hw : Region.wanted o (yielded ops a.tmps) = true)
    (hr : (execOp a.eval o).run P w = .ok (.enter k vs) w) (hc : Calls P k vs w fun e w' => ∃ v, e = .returned v ∧ St w0 F0 w' F L (M v))
    (h : ∀ v w', St w0 F0 w' F L (M v) → WL P ops Q rest (a.put o.dst v) w') : WL P ops Q (o :: rest) a w :=
  doC hw hr hc fun e w' ⟨v, he, hS⟩ => ⟨v, he, h v w' hS⟩
section
variable {k i n : Nat} {c zs vs : List Value} {el : List (List Value)}
theorem Da (A B K : Nat) (hA : A ≤ B) (hc : B + K ≤ c.length) (hv : vs.length = K) :
    (cK (cK c (A + K) ((c.drop A).take (B - A))) A vs).take (B + K) = (c.take B).take A ++ (vs ++ (c.take B).drop A) := by
 unfold cK
 apply List.ext_getElem?
 intro j
 simp only [List.getElem?_append, List.getElem?_take, List.getElem?_drop, List.length_take, List.length_drop, List.length_append, hv]
 grind
theorem YS (A B K : Nat) (hA : A ≤ B) {x : List Value} (hB : B ≤ c.length) (hx : x.length = B + K - A) {more : List Value} (hv : vs.length = K) :
    (cK (cK (c.take A ++ x ++ more) A vs) (A + K) ((c.drop A).take (B - A))).take (B + K) = (c.take B).take A ++ (vs ++ (c.take B).drop A) := by
 unfold cK
 apply List.ext_getElem?
 intro j
 simp only [List.getElem?_append, List.getElem?_take, List.getElem?_drop, List.length_take, List.length_drop, List.length_append, hv, hx]
 grind
theorem Db (A B K : Nat) (hA : A + K ≤ B) (hc : B ≤ c.length) (hz : zs.length = K) :
    (cK (cK c A ((c.drop (A + K)).take (B - (A + K)))) (B - K) zs).take (B - K) = (c.take B).take A ++ (c.take B).drop (A + K) := by
 unfold cK
 apply List.ext_getElem?
 intro j
 simp only [List.getElem?_append, List.getElem?_take, List.getElem?_drop, List.length_take, List.length_drop, List.length_append, hz]
 grind
variable (h3 : ∀ x ∈ el, x.length = k) (hc : c.take (n * k) = el.flatten)
include h3 hc
theorem HB (hi : i ≤ n) (hl : (n + 1) * k ≤ c.length) (hv : vs.length = k) :
    (cK (cK c ((i + 1) * k) ((c.drop (i * k)).take ((n - i) * k))) (i * k) vs).take ((n + 1) * k) = (el.take i ++ vs :: el.drop i).flatten := by
 have hA : i * k ≤ n * k := Nat.mul_le_mul_right k hi
 have := Da (c := c) (vs := vs) (i * k) (n * k) k hA (by rw [Nat.add_mul, Nat.one_mul] at hl; exact hl) hv
 rw [Nat.add_mul, Nat.one_mul, Nat.sub_mul, Nat.add_mul, Nat.one_mul, this, hc, List.flatten_append, List.flatten_cons, rV h3, rW h3]
theorem DI (hi : i ≤ n) (hl : n * k ≤ c.length) {x more : List Value} (hx : x.length = (n + 1 - i) * k) (hv : vs.length = k) :
    (cK (cK (c.take (i * k) ++ x ++ more) (i * k) vs) ((i + 1) * k) ((c.drop (i * k)).take ((n - i) * k))).take ((n + 1) * k) = (el.take i ++ vs :: el.drop i).flatten := by
 have hA : i * k ≤ n * k := Nat.mul_le_mul_right k hi
 have := YS (c := c) (vs := vs) (x := x) (more := more) (i * k) (n * k) k hA hl (by rw [hx, Nat.sub_mul, Nat.add_mul, Nat.one_mul]) hv
 rw [Nat.add_mul, Nat.one_mul, Nat.sub_mul, Nat.add_mul, Nat.one_mul, this, hc, List.flatten_append, List.flatten_cons, rV h3, rW h3]
theorem HF (hi : i < n) (hl : n * k ≤ c.length) (hz : zs.length = k) :
    (cK (cK c (i * k) ((c.drop ((i + 1) * k)).take ((n - (i + 1)) * k))) ((n - 1) * k) zs).take ((n - 1) * k) = (el.take i ++ el.drop (i + 1)).flatten := by
 have hA : (i + 1) * k ≤ n * k := Nat.mul_le_mul_right k hi
 rw [Nat.add_mul, Nat.one_mul] at hA
 have := Db (c := c) (zs := zs) (i * k) (n * k) k hA hl hz
 rw [Nat.add_mul, Nat.one_mul, Nat.sub_mul, Nat.sub_mul, Nat.add_mul, Nat.one_mul, this, hc, List.flatten_append, rV h3, rW h3, Nat.add_mul, Nat.one_mul]
end
theorem St.src {w0 w : World} {F0 F : Fz} {L : List Blk} {M : List RowP} (S : St w0 F0 w F L M) {i n : Nat} {c : List Value} {T : TypeId} (hL : L[i]? = some ⟨n, c, T⟩) (j m : Nat) : ∀ q u, ((c.drop j).take m)[q]? = some u → w.cell? ((⟨n, j, none⟩ : Addr).add q) = some u := by
 intro q u hu
 rw [Addr.add_mid]
 rw [List.getElem?_take] at hu
 split at hu
 ·rw [List.getElem?_drop] at hu
  exact S.cell hL hu
 ·cases hu
theorem St.src0 {w0 w : World} {F0 F : Fz} {L : List Blk} {M : List RowP} (S : St w0 F0 w F L M) {i n : Nat} {c : List Value} {T : TypeId} (hL : L[i]? = some ⟨n, c, T⟩) : ∀ q u, c[q]? = some u → w.cell? ((⟨n, 0, none⟩ : Addr).add q) = some u := by
 intro q u hu
 rw [Addr.add_mid, Nat.zero_add]
 exact S.cell hL hu
theorem St.srcT {w0 w : World} {F0 F : Fz} {L : List Blk} {M : List RowP} (S : St w0 F0 w F L M) {i n : Nat} {c : List Value} {T : TypeId} (hL : L[i]? = some ⟨n, c, T⟩) (m : Nat) : ∀ q u, (c.take m)[q]? = some u → w.cell? ((⟨n, 0, none⟩ : Addr).add q) = some u := by
 intro q u hu
 rw [Addr.add_mid, Nat.zero_add]
 rw [List.getElem?_take] at hu
 split at hu
 ·exact S.cell hL hu
 ·cases hu
theorem uW {α : Type} {R : Fz → List Value → α → Prop} {F : Fz} {k : Nat} {c : List Value} {el : List (List Value)} {l : List α} (hone : ∀ F cs p, R F cs p → ∀ u ∈ cs, u.oneCell' = true) (hall : AllR (R F) el l) (hc : c.take (l.length * k) = el.flatten) (i : Nat) : ∀ u ∈ (c.drop (i * k)).take ((l.length - i) * k), u.oneCell' = true := by
 intro u hu
 have e : (c.drop (i * k)).take ((l.length - i) * k) = el.flatten.drop (i * k) := by
  rw [← hc, List.drop_take, Nat.sub_mul]
 rw [e] at hu
 obtain ⟨y, hy, huy⟩ := List.mem_flatten.1 (List.mem_of_mem_drop hu)
 obtain ⟨j, hj, rfl⟩ := List.mem_iff_getElem.1 hy
 exact hone _ _ _ (hall.get j hj (by rw [← hall.len]; exact hj)) u huy
theorem pV {α : Type} {R : List Value → α → Prop} {xs : List (List Value)} {ps : List α} (h : AllR R xs ps) (i : Nat) {x : List Value} {p : α} (hx : R x p) : AllR R (xs.take i ++ x :: xs.drop i) (ps.take i ++ p :: ps.drop i) := (h.take i).append ⟨hx, h.drop i⟩
theorem AD {α : Type} {R : List Value → α → Prop} {xs : List (List Value)} {ps : List α} (h : AllR R xs ps) (i : Nat) : AllR R (xs.take i ++ xs.drop (i + 1)) (ps.take i ++ ps.drop (i + 1)) := (h.take i).append (h.drop (i + 1))
theorem rX {el : List (List Value)} {k : Nat} (h : ∀ x ∈ el, x.length = k) (i : Nat) {x : List Value} (hx : x.length = k) : ∀ y ∈ el.take i ++ x :: el.drop i, y.length = k := by
 intro y hy
 rcases List.mem_append.1 hy with hy | hy
 ·exact h y (List.mem_of_mem_take hy)
 ·rcases List.mem_cons.1 hy with rfl | hy
  ·exact hx
  ·exact h y (List.mem_of_mem_drop hy)
theorem DJ {el : List (List Value)} {k : Nat} (h : ∀ x ∈ el, x.length = k) (i : Nat) : ∀ y ∈ el.take i ++ el.drop (i + 1), y.length = k := by
 intro y hy
 rcases List.mem_append.1 hy with hy | hy
 ·exact h y (List.mem_of_mem_take hy)
 ·exact h y (List.mem_of_mem_drop hy)
section
variable {P : Program} {ρ : Operand → Value} {w : World} {d : Option Tmp} {t X Y : TypeId} {pos : String} {after : Array Edge} {guard : Option (Nat × Bool)} {x y : Operand} {l m : List UInt8}
def Gu (op : BinOp) (l m : List UInt8) : Bool := match op with | .lss => Op.bytesLess l m | .leq => Op.bytesLess l m || l == m | .gtr => !(Op.bytesLess l m || l == m) | .geq => !Op.bytesLess l m | .eql => l == m | _ => !(l == m)
theorem YT {op : BinOp} {b : Bool} (hop : op = .lss ∨ op = .leq ∨ op = .gtr ∨ op = .geq ∨ op = .eql ∨ op = .neq) (hx : ρ x = .string ⟨l.toArray⟩) (hy : ρ y = .string ⟨m.toArray⟩)
    (h : Gu op l m = b) :
    (execOp ρ ⟨d, .binOp op X x y Y, t, pos, after, guard⟩).run P w = .ok (.value (.bool b)) w := by
 subst h
 have e : (eqGuard op X x y (.string ⟨l.toArray⟩) (.string ⟨m.toArray⟩)).run P w = .ok () w := by
  unfold eqGuard
  rcases hop with rfl | rfl | rfl | rfl | rfl | rfl <;> rfl
 have e2 : (binOp op X (.string ⟨l.toArray⟩) (.string ⟨m.toArray⟩)).run P w = .ok (.bool (Gu op l m)) w := by
  rcases hop with rfl | rfl | rfl | rfl | rfl | rfl <;> simp [binOp, Op.stringOp, Gu]
 simp only [execOp, hx, hy, Sem.run_bind, e, Result.andThen_ok, e2, Sem.run_pure]
theorem bJ {v r : Value} (hx : ρ x = v) (h : (convert X Y v).run P w = .ok r w) : (execOp ρ ⟨d, .convert X Y x, t, pos, after, guard⟩).run P w = .ok (.value r) w := by
 subst hx
 simp only [execOp, Sem.run_bind, h, Result.andThen_ok, Sem.run_pure]
end
section
variable {P : Program} {ρ : Operand → Value} {w : World} {d : Option Tmp} {t X T : TypeId} {pos : String} {after : Array Edge} {guard : Option (Nat × Bool)} {x y : Operand} {k : IntKind} {m n r : Int}
theorem YU {E : TypeId} {A : Option Addr} {l c : Nat} (hT : P.underlying T = some (.slice E)) (h : ρ x = .slice A l c) : (execOp ρ ⟨d, .call ⟨.builtin .cap, #[x], #[T]⟩, t, pos, after, guard⟩).run P w = .ok (.value (.int .i64 c)) w := by
 simp [execOp, resolve, invoke, builtin, Builtin.cap_, h, run_underlying hT w]; rfl
theorem YV {U : TypeId} (hx : ρ x = .int k m) (hy : ρ y = .int k n) (e : (if m < n then n else m) = r) : (execOp ρ ⟨d, .call ⟨.builtin .max, #[x, y], #[T, U]⟩, t, pos, after, guard⟩).run P w = .ok (.value (.int k r)) w := by
 subst e
 simp [execOp, resolve, invoke, builtin, Builtin.max_, Builtin.max2, hx, hy]
theorem wL {U : TypeId} (hx : ρ x = .int k m) (hy : ρ y = .int k n) (e : (if n < m then n else m) = r) : (execOp ρ ⟨d, .call ⟨.builtin .min, #[x, y], #[T, U]⟩, t, pos, after, guard⟩).run P w = .ok (.value (.int k r)) w := by
 subst e
 simp [execOp, resolve, invoke, builtin, Builtin.min_, Builtin.min2, hx, hy]
theorem HG {E : TypeId} {A : Option Addr} {n c : Nat} {lo hi mx : Operand} {l h m : Nat} {sz : Nat} {v : Value} (hX : P.underlying X = some (.slice E)) (hx : ρ x = .slice A n c) (hsz : (sizeOf E).run P w = .ok sz w)
    (hl : ρ lo = .int .i64 l) (hh : ρ hi = .int .i64 h) (hm : ρ mx = .int .i64 m) (h1 : l ≤ h) (h2 : h ≤ m) (h3 : m ≤ c)
    (hv : v = .slice (if m = l then A else A.map (·.add (l * sz))) (h - l) (m - l)) : (execOp ρ ⟨d, .slice X x (some lo) (some hi) (some mx), t, pos, after, guard⟩).run P w = .ok (.value v) w := by
 subst hv
 have b1 : ∀ (z y : Nat) (code : BoundsCode), z ≤ y → (Instr.sliceBound (.int .i64 z) y code).run P w = .ok z w := by
  intro z y code hzy
  have : (0 : Int) ≤ (z : Int) ∧ (z : Int) ≤ (y : Int) := by omega
  simp [Instr.sliceBound, asIntOf, this]
 have hb : (Instr.sliceBounds true n c (some (ρ lo)) (some (ρ hi)) (some (ρ mx))).run P w = .ok (l, h, m) w := by
  simp [Instr.sliceBounds, hl, hh, hm, b1 _ _ _ h1, b1 _ _ _ h2, b1 _ _ _ h3]
 have hs : (Instr.sliceAt X (.slice A n c) (some (ρ lo)) (some (ρ hi)) (some (ρ mx))).run P w = .ok (.slice (if m = l then A else A.map (·.add (l * sz))) (h - l) (m - l)) w := by
  simp [Instr.sliceAt, Sem.run_bind, run_underlying hX w, Instr.slice, hb, hsz]
 simp [execOp, hx, hs]
theorem iT {E : TypeId} {A : Option Addr} {n c : Nat} {hi mx : Operand} {h m : Nat} {sz : Nat} {v : Value} (hX : P.underlying X = some (.slice E)) (hx : ρ x = .slice A n c) (hsz : (sizeOf E).run P w = .ok sz w)
    (hh : ρ hi = .int .i64 h) (hm : ρ mx = .int .i64 m) (h2 : h ≤ m) (h3 : m ≤ c)
    (hv : v = .slice A h m) : (execOp ρ ⟨d, .slice X x none (some hi) (some mx), t, pos, after, guard⟩).run P w = .ok (.value v) w := by
 subst hv
 have b1 : ∀ (z y : Nat) (code : BoundsCode), z ≤ y → (Instr.sliceBound (.int .i64 z) y code).run P w = .ok z w := by
  intro z y code hzy
  have : (0 : Int) ≤ (z : Int) ∧ (z : Int) ≤ (y : Int) := by omega
  simp [Instr.sliceBound, asIntOf, this]
 have hb : (Instr.sliceBounds true n c none (some (ρ hi)) (some (ρ mx))).run P w = .ok (0, h, m) w := by
  simp [Instr.sliceBounds, hh, hm, b1 _ _ _ h2, b1 _ _ _ h3]
 have ha : (if m = 0 then A else A.map (·.add (0 * sz))) = A := by
  have : A.map (·.add (0 * sz)) = A := by cases A <;> simp [Addr.add]
  rw [this]; split <;> rfl
 have hs : (Instr.sliceAt X (.slice A n c) none (some (ρ hi)) (some (ρ mx))).run P w = .ok (.slice A h m) w := by
  simp only [Instr.sliceAt, Sem.run_bind, run_underlying hX w, Result.andThen_ok, Instr.slice, hb, hsz, Sem.run_pure, Nat.sub_zero, ha]
 simp [execOp, hx, hs]
end
theorem lH {F : Fz} {n : Nat} {c : List Value} {l : List UInt8} (h : ∀ j v, c[j]? = some v → cI F n j = some v) (e : c = l.map bv) (hl : l.length ≤ maxLen) : Bs F (.slice (some ⟨n, 0, none⟩) l.length l.length) l := by
 subst e
 exact Rw.of_cells (Nat.le_refl _) hl fun j u hu => by rw [Nat.zero_add]; exact h j u hu
theorem gJ {α : Type} {k : Nat} {R : Fz → List Value → α → Prop} {F : Fz} {n : Nat} {c : List Value} {el : List (List Value)} {l : List α} (h : ∀ j v, c[j]? = some v → cI F n j = some v) (e : c = el.flatten) (hR : AllR (R F) el l) (hk : ∀ x ∈ el, x.length = k) (hl : l.length ≤ maxLen) : Sl k R F (.slice (some ⟨n, 0, none⟩) l.length l.length) l := by
 subst e
 exact ⟨el, Rw.of_cells (Nat.le_refl _) hl fun j u hu => by rw [Nat.zero_add]; exact h j u hu, hR, hk⟩
set_option maxRecDepth 100000
def EN (k : FuncId) : Prop := ∀ (vs : Array Value) (w : World), (callFunc k vs).run Tryz.prog w = .ok (.enter k vs) w
abbrev SZ (t : TypeId) (n : Nat) : Prop := (Tryz.prog.info? t).map (·.size) = some n
def ZR (t : TypeId) (v : Value) : Prop := ∀ w : World, (zeroValue t).run Tryz.prog w = .ok v w
def NG (t : TypeId) : Prop := ∀ w : World, (isAgg t).run Tryz.prog w = .ok false w
def SO (t : TypeId) (n : Nat) : Prop := ∀ w : World, (sizeOf t).run Tryz.prog w = .ok n w
def FZ (t : TypeId) (f : Nat) : Prop := ∀ (b o : Nat) (w : World), (Instr.fieldAt t (.pointer (some ⟨b, o, none⟩)) f).run Tryz.prog w = .ok (.pointer (some ⟨b, o, none⟩)) w
def FO (t : TypeId) (f n : Nat) : Prop := ∀ (b o : Nat) (w : World), (Instr.fieldAt t (.pointer (some ⟨b, o, none⟩)) f).run Tryz.prog w = .ok (.pointer (some ⟨b, o + n, none⟩)) w
abbrev IFO (t : TypeId) (z : Value) (n m : Nat) : Prop := (Tryz.prog.info? t).map (fun i => (i.zero, i.size, i.bytes)) = some (some z, n, m)
theorem bK : NG 3 := fun _ => by kernel_rfl
theorem qJ : SZ 3 1 := (by kernel_rfl : _ = _)
theorem Gv : ZR 3 (.int .i64 0) := fun _ => by kernel_rfl
theorem fE : SO 3 1 := fun _ => by kernel_rfl
theorem iF : NG 4 := fun _ => by kernel_rfl
theorem tP : SZ 4 1 := (by kernel_rfl : _ = _)
theorem jO : NG 5 := fun _ => by kernel_rfl
theorem YW : SZ 5 1 := (by kernel_rfl : _ = _)
theorem bO : SO 5 1 := fun _ => by kernel_rfl
theorem Dc : NG 22 := fun _ => by kernel_rfl
theorem Dd : NG 23 := fun _ => by kernel_rfl
theorem uX : NG 24 := fun _ => by kernel_rfl
theorem oA : SO 24 1 := fun _ => by kernel_rfl
theorem bH : NG 25 := fun _ => by kernel_rfl
theorem kS : SZ 25 1 := (by kernel_rfl : _ = _)
theorem iO : SO 25 1 := fun _ => by kernel_rfl
theorem IZ : NG 35 := fun _ => by kernel_rfl
theorem xS : NG 40 := fun _ => by kernel_rfl
theorem JA : SZ 40 1 := (by kernel_rfl : _ = _)
theorem nR : NG 41 := fun _ => by kernel_rfl
theorem TP : SZ 41 1 := (by kernel_rfl : _ = _)
theorem uY : NG 47 := fun _ => by kernel_rfl
theorem JB : SZ 47 1 := (by kernel_rfl : _ = _)
theorem De : NG 48 := fun _ => by kernel_rfl
theorem TQ : SZ 48 1 := (by kernel_rfl : _ = _)
theorem JC : NG 60 := fun _ => by kernel_rfl
theorem BO : SZ 60 1 := (by kernel_rfl : _ = _)
theorem Df : NG 61 := fun _ => by kernel_rfl
theorem YX : NG 105 := fun _ => by kernel_rfl
theorem oN : NG 106 := fun _ => by kernel_rfl
theorem DK : SZ 106 1 := (by kernel_rfl : _ = _)
theorem jA : NG 109 := fun _ => by kernel_rfl
theorem DL : SZ 109 1 := (by kernel_rfl : _ = _)
theorem eM : NG 110 := fun _ => by kernel_rfl
theorem oO : SZ 110 1 := (by kernel_rfl : _ = _)
theorem YY : NG 137 := fun _ => by kernel_rfl
theorem DM : NG 139 := fun _ => by kernel_rfl
theorem MX : SZ 139 1 := (by kernel_rfl : _ = _)
theorem dO : SZ 50 2 := (by kernel_rfl : _ = _)
theorem uZ : ZR 50 (.agg #[.slice none 0 0, .slice none 0 0]) := fun _ => by kernel_rfl
theorem bM : SO 50 2 := fun _ => by kernel_rfl
theorem nS : IFO 50 (.agg #[.slice none 0 0, .slice none 0 0]) 2 48 := (by kernel_rfl : _ = _)
theorem nT : FZ 50 0 := fun _ _ _ => by go_simp
theorem xT : FO 50 1 1 := fun _ _ _ => by go_simp
theorem jJ : SZ 66 2 := (by kernel_rfl : _ = _)
theorem xU : ZR 66 (.agg #[.slice none 0 0, .slice none 0 0]) := fun _ => by kernel_rfl
theorem cJ : SO 66 2 := fun _ => by kernel_rfl
theorem vA : IFO 66 (.agg #[.slice none 0 0, .slice none 0 0]) 2 48 := (by kernel_rfl : _ = _)
theorem rY : FZ 66 0 := fun _ _ _ => by go_simp
theorem nU : FO 66 1 1 := fun _ _ _ => by go_simp
theorem gG : SZ 72 2 := (by kernel_rfl : _ = _)
theorem lS : ZR 72 (.agg #[.bool false, .slice none 0 0]) := fun _ => by kernel_rfl
theorem vB : FZ 72 0 := fun _ _ _ => by go_simp
theorem vC : FO 72 1 1 := fun _ _ _ => by go_simp
theorem bY : SZ 39 4 := (by kernel_rfl : _ = _)
theorem kT : ZR 39 (.agg #[.slice none 0 0, .slice none 0 0, .bool false, .slice none 0 0]) := fun _ => by kernel_rfl
theorem fI : SO 39 4 := fun _ => by kernel_rfl
theorem JD : IFO 39 (.agg #[.slice none 0 0, .slice none 0 0, .bool false, .slice none 0 0]) 4 80 := (by kernel_rfl : _ = _)
theorem JE : FZ 39 0 := fun _ _ _ => by go_simp
theorem BP : FO 39 1 1 := fun _ _ _ => by go_simp
theorem xV : FO 39 2 2 := fun _ _ _ => by go_simp
theorem BQ : FO 39 3 3 := fun _ _ _ => by go_simp
theorem dS : SZ 179 4 := (by kernel_rfl : _ = _)
theorem tQ : ZR 179 (.agg #[.slice none 0 0, .slice none 0 0, .bool false, .slice none 0 0]) := fun _ => by kernel_rfl
theorem jP : SO 179 4 := fun _ => by kernel_rfl
theorem MY : IFO 179 (.agg #[.slice none 0 0, .slice none 0 0, .bool false, .slice none 0 0]) 4 80 := (by kernel_rfl : _ = _)
theorem DN : FZ 179 0 := fun _ _ _ => by go_simp
theorem DO : FO 179 1 1 := fun _ _ _ => by go_simp
theorem DP : FO 179 2 2 := fun _ _ _ => by go_simp
theorem xW : FO 179 3 3 := fun _ _ _ => by go_simp
theorem eY : SZ 168 2 := (by kernel_rfl : _ = _)
theorem tR : ZR 168 (.agg #[.int .i64 0, .slice none 0 0]) := fun _ => by kernel_rfl
theorem QZ : SO 168 2 := fun _ => by kernel_rfl
theorem MZ : IFO 168 (.agg #[.int .i64 0, .slice none 0 0]) 2 32 := (by kernel_rfl : _ = _)
theorem NB : FZ 168 0 := fun _ _ _ => by go_simp
theorem tS : FO 168 1 1 := fun _ _ _ => by go_simp
theorem DQ : SZ 204 3 := (by kernel_rfl : _ = _)
theorem YZ : ZR 204 (.agg #[.int .i64 0, .bool false, .slice none 0 0]) := fun _ => by kernel_rfl
theorem NC : IFO 204 (.agg #[.int .i64 0, .bool false, .slice none 0 0]) 3 40 := (by kernel_rfl : _ = _)
theorem ZA : FZ 204 0 := fun _ _ _ => by go_simp
theorem ZB : FO 204 1 1 := fun _ _ _ => by go_simp
theorem ZC : FO 204 2 2 := fun _ _ _ => by go_simp
theorem bB : SZ 141 3 := (by kernel_rfl : _ = _)
theorem gM : ZR 141 (.agg #[.int .i64 0, .slice none 0 0, .slice none 0 0]) := fun _ => by kernel_rfl
theorem lT : FZ 141 0 := fun _ _ _ => by go_simp
theorem tT : FO 141 1 1 := fun _ _ _ => by go_simp
theorem xX : FO 141 2 2 := fun _ _ _ => by go_simp
theorem cD : SZ 108 2 := (by kernel_rfl : _ = _)
theorem jQ : ZR 108 (.agg #[.slice none 0 0, .int .i64 0]) := fun _ => by kernel_rfl
theorem kN : FZ 108 0 := fun _ _ _ => by go_simp
theorem mX : FO 108 1 1 := fun _ _ _ => by go_simp
theorem fA : SZ 33 4 := (by kernel_rfl : _ = _)
theorem xY : ZR 33 (.agg #[.int .i64 0, .int .i64 0, .int .i64 0, .slice none 0 0]) := fun _ => by kernel_rfl
theorem HH : SO 33 4 := fun _ => by kernel_rfl
theorem JF : IFO 33 (.agg #[.int .i64 0, .int .i64 0, .int .i64 0, .slice none 0 0]) 4 48 := (by kernel_rfl : _ = _)
theorem Dg : FZ 33 0 := fun _ _ _ => by go_simp
theorem Dh : FO 33 1 1 := fun _ _ _ => by go_simp
theorem Di : FO 33 2 2 := fun _ _ _ => by go_simp
theorem Dj : FO 33 3 3 := fun _ _ _ => by go_simp
theorem bI : SZ 27 5 := (by kernel_rfl : _ = _)
theorem xZ : ZR 27 (.agg #[.int .i64 0, .slice none 0 0, .slice none 0 0, .slice none 0 0, .slice none 0 0]) := fun _ => by kernel_rfl
theorem lU : FZ 27 0 := fun _ _ _ => by go_simp
theorem yA : FO 27 1 1 := fun _ _ _ => by go_simp
theorem yB : FO 27 2 2 := fun _ _ _ => by go_simp
theorem JG : FO 27 3 3 := fun _ _ _ => by go_simp
theorem Dk : FO 27 4 4 := fun _ _ _ => by go_simp
theorem eH : SZ 52 4 := (by kernel_rfl : _ = _)
theorem rZ : ZR 52 (.agg #[.bool false, .slice none 0 0, .slice none 0 0, .slice none 0 0]) := fun _ => by kernel_rfl
theorem Dl : FZ 52 0 := fun _ _ _ => by go_simp
theorem JH : FO 52 1 1 := fun _ _ _ => by go_simp
theorem TR : FO 52 2 2 := fun _ _ _ => by go_simp
theorem ZD : FZ 195 0 := fun _ _ _ => by go_simp
theorem ZE : FO 195 1 1 := fun _ _ _ => by go_simp
theorem Dm : SZ 54 15 := (by kernel_rfl : _ = _)
theorem vD : SO 54 15 := fun _ => by kernel_rfl
theorem Dn : IFO 54 (.agg #[.int .i64 0, .int .i64 0, .int .i64 0, .bool false, .slice none 0 0, .slice none 0 0, .slice none 0 0, .bool false, .slice none 0 0, .slice none 0 0, .slice none 0 0, .bool false, .slice none 0 0, .slice none 0 0, .slice none 0 0]) 15 264 := (by kernel_rfl : _ = _)
theorem Do : FZ 54 0 := fun _ _ _ => by go_simp
theorem JI : FO 54 1 1 := fun _ _ _ => by go_simp
theorem JJ : FO 54 2 2 := fun _ _ _ => by go_simp
theorem Dp : FO 54 3 3 := fun _ _ _ => by go_simp
theorem Dq : FO 54 4 4 := fun _ _ _ => by go_simp
theorem Dr : FO 54 5 5 := fun _ _ _ => by go_simp
theorem Ds : FO 54 6 6 := fun _ _ _ => by go_simp
theorem Dt : FO 54 7 7 := fun _ _ _ => by go_simp
theorem Du : FO 54 8 11 := fun _ _ _ => by go_simp
theorem DR : SO 112 2 := fun _ => by kernel_rfl
theorem eJ : FZ 112 0 := fun _ _ _ => by go_simp
theorem oP : FO 112 1 1 := fun _ _ _ => by go_simp
theorem qX : FZ 115 0 := fun _ _ _ => by go_simp
theorem qY : FO 115 1 1 := fun _ _ _ => by go_simp
theorem hJ : FO 115 2 3 := fun _ _ _ => by go_simp
theorem mY : FO 115 3 4 := fun _ _ _ => by go_simp
theorem gN : FO 115 4 5 := fun _ _ _ => by go_simp
theorem yC : FO 115 5 6 := fun _ _ _ => by go_simp
theorem tU : FO 115 6 22 := fun _ _ _ => by go_simp
theorem tV : FO 115 7 23 := fun _ _ _ => by go_simp
theorem kU : SZ 43 5 := (by kernel_rfl : _ = _)
theorem nV : ZR 43 (.agg #[.bool false, .int .i64 0, .int .i64 0, .slice none 0 0, .slice none 0 0]) := fun _ => by kernel_rfl
theorem TS : FZ 43 0 := fun _ _ _ => by go_simp
theorem Dv : FO 43 1 1 := fun _ _ _ => by go_simp
theorem Dw : FO 43 2 2 := fun _ _ _ => by go_simp
theorem Dx : FO 43 3 3 := fun _ _ _ => by go_simp
theorem yD : FO 43 4 4 := fun _ _ _ => by go_simp
theorem TT : SZ 31 5 := (by kernel_rfl : _ = _)
theorem VX : SO 31 5 := fun _ => by kernel_rfl
theorem JK : FZ 31 0 := fun _ _ _ => by go_simp
theorem JL : FO 31 1 1 := fun _ _ _ => by go_simp
theorem TU : FO 31 2 2 := fun _ _ _ => by go_simp
theorem JM : FO 31 3 3 := fun _ _ _ => by go_simp
theorem yE : FO 31 4 4 := fun _ _ _ => by go_simp
theorem BR : EN 100 := fun _ _ => by kernel_rfl
theorem TV : EN 101 := fun _ _ => by kernel_rfl
theorem TW : EN 102 := fun _ _ => by kernel_rfl
theorem TX : EN 103 := fun _ _ => by kernel_rfl
theorem JN : EN 104 := fun _ _ => by kernel_rfl
theorem Dy : EN 105 := fun _ _ => by kernel_rfl
theorem BS : EN 106 := fun _ _ => by kernel_rfl
theorem Dz : EN 107 := fun _ _ => by kernel_rfl
theorem jK : EN 108 := fun _ _ => by kernel_rfl
theorem TY : EN 109 := fun _ _ => by kernel_rfl
theorem Ea : EN 110 := fun _ _ => by kernel_rfl
theorem BT : EN 111 := fun _ _ => by kernel_rfl
theorem TZ : EN 112 := fun _ _ => by kernel_rfl
theorem UA : EN 113 := fun _ _ => by kernel_rfl
theorem UB : EN 114 := fun _ _ => by kernel_rfl
theorem UC : EN 115 := fun _ _ => by kernel_rfl
theorem Eb : EN 116 := fun _ _ => by kernel_rfl
theorem JO : EN 117 := fun _ _ => by kernel_rfl
theorem sB : EN 118 := fun _ _ => by kernel_rfl
theorem BU : EN 119 := fun _ _ => by kernel_rfl
theorem UD : EN 120 := fun _ _ => by kernel_rfl
theorem JP : EN 121 := fun _ _ => by kernel_rfl
theorem JQ : EN 122 := fun _ _ => by kernel_rfl
theorem Ec : EN 123 := fun _ _ => by kernel_rfl
theorem JR : EN 124 := fun _ _ => by kernel_rfl
theorem Ed : EN 125 := fun _ _ => by kernel_rfl
theorem UE : EN 126 := fun _ _ => by kernel_rfl
theorem JS : EN 127 := fun _ _ => by kernel_rfl
theorem Ee : EN 128 := fun _ _ => by kernel_rfl
theorem UF : EN 129 := fun _ _ => by kernel_rfl
theorem UG : EN 130 := fun _ _ => by kernel_rfl
theorem Ef : EN 131 := fun _ _ => by kernel_rfl
theorem Eg : EN 132 := fun _ _ => by kernel_rfl
theorem Eh : EN 133 := fun _ _ => by kernel_rfl
theorem Ei : EN 134 := fun _ _ => by kernel_rfl
theorem Ej : EN 135 := fun _ _ => by kernel_rfl
theorem Ek : EN 136 := fun _ _ => by kernel_rfl
theorem El : EN 137 := fun _ _ => by kernel_rfl
theorem Em : EN 138 := fun _ _ => by kernel_rfl
theorem En : EN 139 := fun _ _ => by kernel_rfl
theorem Eo : EN 140 := fun _ _ => by kernel_rfl
theorem Ep : EN 141 := fun _ _ => by kernel_rfl
theorem UH : EN 142 := fun _ _ => by kernel_rfl
theorem Es : EN 143 := fun _ _ => by kernel_rfl
theorem Et : EN 144 := fun _ _ => by kernel_rfl
theorem JT : EN 146 := fun _ _ => by kernel_rfl
theorem JU : EN 147 := fun _ _ => by kernel_rfl
theorem UI : EN 148 := fun _ _ => by kernel_rfl
theorem Gw : EN 19 := fun _ _ => by kernel_rfl
theorem oQ : EN 20 := fun _ _ => by kernel_rfl
theorem Gx : EN 21 := fun _ _ => by kernel_rfl
theorem zF : EN 22 := fun _ _ => by kernel_rfl
theorem DS : EN 23 := fun _ _ => by kernel_rfl
theorem ZF : EN 24 := fun _ _ => by kernel_rfl
theorem RA : EN 25 := fun _ _ => by kernel_rfl
theorem ZG : EN 29 := fun _ _ => by kernel_rfl
theorem Gy : EN 30 := fun _ _ => by kernel_rfl
theorem Gz : EN 31 := fun _ _ => by kernel_rfl
theorem JV : EN 32 := fun _ _ => by kernel_rfl
theorem Ha : EN 33 := fun _ _ => by kernel_rfl
theorem Hb : EN 34 := fun _ _ => by kernel_rfl
theorem ZH : EN 35 := fun _ _ => by kernel_rfl
theorem Hc : EN 36 := fun _ _ => by kernel_rfl
theorem Hd : EN 37 := fun _ _ => by kernel_rfl
theorem RB : EN 38 := fun _ _ => by kernel_rfl
theorem RC : EN 39 := fun _ _ => by kernel_rfl
theorem RD : EN 40 := fun _ _ => by kernel_rfl
theorem JW : EN 41 := fun _ _ => by kernel_rfl
theorem JX : EN 42 := fun _ _ => by kernel_rfl
theorem wM : EN 43 := fun _ _ => by kernel_rfl
theorem wN : EN 44 := fun _ _ => by kernel_rfl
theorem gH : EN 45 := fun _ _ => by kernel_rfl
theorem RE : EN 46 := fun _ _ => by kernel_rfl
theorem DT : EN 47 := fun _ _ => by kernel_rfl
theorem tW : EN 48 := fun _ _ => by kernel_rfl
theorem ZI : EN 49 := fun _ _ => by kernel_rfl
theorem ZJ : EN 50 := fun _ _ => by kernel_rfl
theorem He : EN 51 := fun _ _ => by kernel_rfl
theorem Hf : EN 52 := fun _ _ => by kernel_rfl
theorem DU : EN 53 := fun _ _ => by kernel_rfl
theorem Hg : EN 54 := fun _ _ => by kernel_rfl
theorem wO : EN 55 := fun _ _ => by kernel_rfl
theorem DV : EN 56 := fun _ _ => by kernel_rfl
theorem ZK : EN 57 := fun _ _ => by kernel_rfl
theorem JY : EN 58 := fun _ _ => by kernel_rfl
theorem Hh : EN 60 := fun _ _ => by kernel_rfl
theorem ZL : EN 61 := fun _ _ => by kernel_rfl
theorem JZ : EN 62 := fun _ _ => by kernel_rfl
theorem Hi : EN 63 := fun _ _ => by kernel_rfl
theorem RF : EN 64 := fun _ _ => by kernel_rfl
theorem Hj : EN 65 := fun _ _ => by kernel_rfl
theorem Hk : EN 68 := fun _ _ => by kernel_rfl
theorem Hl : EN 69 := fun _ _ => by kernel_rfl
theorem Hm : EN 70 := fun _ _ => by kernel_rfl
theorem Hn : EN 71 := fun _ _ => by kernel_rfl
theorem Ho : EN 72 := fun _ _ => by kernel_rfl
theorem lV : EN 76 := fun _ _ => by kernel_rfl
theorem Hp : EN 77 := fun _ _ => by kernel_rfl
theorem Hq : EN 78 := fun _ _ => by kernel_rfl
theorem qK : EN 79 := fun _ _ => by kernel_rfl
theorem ZM : EN 80 := fun _ _ => by kernel_rfl
theorem Hr : EN 81 := fun _ _ => by kernel_rfl
theorem Hs : EN 82 := fun _ _ => by kernel_rfl
theorem Ht : EN 83 := fun _ _ => by kernel_rfl
theorem Hu : EN 84 := fun _ _ => by kernel_rfl
theorem Hv : EN 87 := fun _ _ => by kernel_rfl
theorem Hw : EN 88 := fun _ _ => by kernel_rfl
theorem KA : EN 89 := fun _ _ => by kernel_rfl
theorem RG : EN 90 := fun _ _ => by kernel_rfl
theorem ZN : EN 91 := fun _ _ => by kernel_rfl
theorem Hx : EN 92 := fun _ _ => by kernel_rfl
theorem Hy : EN 93 := fun _ _ => by kernel_rfl
theorem KB : EN 94 := fun _ _ => by kernel_rfl
theorem KC : EN 95 := fun _ _ => by kernel_rfl
theorem ZO : EN 96 := fun _ _ => by kernel_rfl
theorem ZP : EN 97 := fun _ _ => by kernel_rfl
theorem Hz : EN 98 := fun _ _ => by kernel_rfl
instance : FA Tryz.prog 50 0 0 := ⟨nT⟩
instance : FA Tryz.prog 50 1 1 := ⟨xT⟩
instance : FA Tryz.prog 66 0 0 := ⟨rY⟩
instance : FA Tryz.prog 66 1 1 := ⟨nU⟩
instance : FA Tryz.prog 72 0 0 := ⟨vB⟩
instance : FA Tryz.prog 72 1 1 := ⟨vC⟩
instance : FA Tryz.prog 39 0 0 := ⟨JE⟩
instance : FA Tryz.prog 39 1 1 := ⟨BP⟩
instance : FA Tryz.prog 39 2 2 := ⟨xV⟩
instance : FA Tryz.prog 39 3 3 := ⟨BQ⟩
instance : FA Tryz.prog 179 0 0 := ⟨DN⟩
instance : FA Tryz.prog 179 1 1 := ⟨DO⟩
instance : FA Tryz.prog 179 2 2 := ⟨DP⟩
instance : FA Tryz.prog 179 3 3 := ⟨xW⟩
instance : FA Tryz.prog 168 0 0 := ⟨NB⟩
instance : FA Tryz.prog 168 1 1 := ⟨tS⟩
instance : FA Tryz.prog 204 0 0 := ⟨ZA⟩
instance : FA Tryz.prog 204 1 1 := ⟨ZB⟩
instance : FA Tryz.prog 204 2 2 := ⟨ZC⟩
instance : FA Tryz.prog 141 0 0 := ⟨lT⟩
instance : FA Tryz.prog 141 1 1 := ⟨tT⟩
instance : FA Tryz.prog 141 2 2 := ⟨xX⟩
instance : FA Tryz.prog 108 0 0 := ⟨kN⟩
instance : FA Tryz.prog 108 1 1 := ⟨mX⟩
instance : FA Tryz.prog 33 0 0 := ⟨Dg⟩
instance : FA Tryz.prog 33 1 1 := ⟨Dh⟩
instance : FA Tryz.prog 33 2 2 := ⟨Di⟩
instance : FA Tryz.prog 33 3 3 := ⟨Dj⟩
instance : FA Tryz.prog 27 0 0 := ⟨lU⟩
instance : FA Tryz.prog 27 1 1 := ⟨yA⟩
instance : FA Tryz.prog 27 2 2 := ⟨yB⟩
instance : FA Tryz.prog 27 3 3 := ⟨JG⟩
instance : FA Tryz.prog 27 4 4 := ⟨Dk⟩
instance : FA Tryz.prog 52 0 0 := ⟨Dl⟩
instance : FA Tryz.prog 52 1 1 := ⟨JH⟩
instance : FA Tryz.prog 52 2 2 := ⟨TR⟩
instance : FA Tryz.prog 195 0 0 := ⟨ZD⟩
instance : FA Tryz.prog 195 1 1 := ⟨ZE⟩
instance : FA Tryz.prog 54 0 0 := ⟨Do⟩
instance : FA Tryz.prog 54 1 1 := ⟨JI⟩
instance : FA Tryz.prog 54 2 2 := ⟨JJ⟩
instance : FA Tryz.prog 54 3 3 := ⟨Dp⟩
instance : FA Tryz.prog 54 4 4 := ⟨Dq⟩
instance : FA Tryz.prog 54 5 5 := ⟨Dr⟩
instance : FA Tryz.prog 54 6 6 := ⟨Ds⟩
instance : FA Tryz.prog 54 7 7 := ⟨Dt⟩
instance : FA Tryz.prog 54 8 11 := ⟨Du⟩
instance : FA Tryz.prog 112 0 0 := ⟨eJ⟩
instance : FA Tryz.prog 112 1 1 := ⟨oP⟩
instance : FA Tryz.prog 115 0 0 := ⟨qX⟩
instance : FA Tryz.prog 115 1 1 := ⟨qY⟩
instance : FA Tryz.prog 115 2 3 := ⟨hJ⟩
instance : FA Tryz.prog 115 3 4 := ⟨mY⟩
instance : FA Tryz.prog 115 4 5 := ⟨gN⟩
instance : FA Tryz.prog 115 5 6 := ⟨yC⟩
instance : FA Tryz.prog 115 6 22 := ⟨tU⟩
instance : FA Tryz.prog 115 7 23 := ⟨tV⟩
instance : FA Tryz.prog 43 0 0 := ⟨TS⟩
instance : FA Tryz.prog 43 1 1 := ⟨Dv⟩
instance : FA Tryz.prog 43 2 2 := ⟨Dw⟩
instance : FA Tryz.prog 43 3 3 := ⟨Dx⟩
instance : FA Tryz.prog 43 4 4 := ⟨yD⟩
instance : FA Tryz.prog 31 0 0 := ⟨JK⟩
instance : FA Tryz.prog 31 1 1 := ⟨JL⟩
instance : FA Tryz.prog 31 2 2 := ⟨TU⟩
instance : FA Tryz.prog 31 3 3 := ⟨JM⟩
instance : FA Tryz.prog 31 4 4 := ⟨yE⟩
instance : NA Tryz.prog 3 := ⟨bK⟩
instance : NA Tryz.prog 4 := ⟨iF⟩
instance : NA Tryz.prog 5 := ⟨jO⟩
instance : NA Tryz.prog 22 := ⟨Dc⟩
instance : NA Tryz.prog 23 := ⟨Dd⟩
instance : NA Tryz.prog 24 := ⟨uX⟩
instance : NA Tryz.prog 25 := ⟨bH⟩
instance : NA Tryz.prog 35 := ⟨IZ⟩
instance : NA Tryz.prog 40 := ⟨xS⟩
instance : NA Tryz.prog 41 := ⟨nR⟩
instance : NA Tryz.prog 47 := ⟨uY⟩
instance : NA Tryz.prog 48 := ⟨De⟩
instance : NA Tryz.prog 60 := ⟨JC⟩
instance : NA Tryz.prog 61 := ⟨Df⟩
instance : NA Tryz.prog 105 := ⟨YX⟩
instance : NA Tryz.prog 106 := ⟨oN⟩
instance : NA Tryz.prog 109 := ⟨jA⟩
instance : NA Tryz.prog 110 := ⟨eM⟩
instance : NA Tryz.prog 137 := ⟨YY⟩
instance : NA Tryz.prog 139 := ⟨DM⟩
instance : US Tryz.prog 22 31 := ⟨Tryz.underlying22⟩
instance : US Tryz.prog 23 33 := ⟨Tryz.underlying23⟩
instance : US Tryz.prog 24 66 := ⟨Tryz.underlying24⟩
instance : US Tryz.prog 25 5 := ⟨Tryz.underlying25⟩
instance : US Tryz.prog 40 39 := ⟨Tryz.underlying40⟩
instance : US Tryz.prog 41 54 := ⟨Tryz.underlying41⟩
instance : US Tryz.prog 47 50 := ⟨Tryz.underlying47⟩
instance : US Tryz.prog 48 204 := ⟨Tryz.underlying48⟩
instance : US Tryz.prog 60 3 := ⟨Tryz.underlying60⟩
instance : US Tryz.prog 61 27 := ⟨Tryz.underlying61⟩
instance : US Tryz.prog 106 24 := ⟨Tryz.underlying106⟩
instance : US Tryz.prog 109 168 := ⟨Tryz.underlying109⟩
instance : US Tryz.prog 139 179 := ⟨Tryz.underlying139⟩
instance : US Tryz.prog 219 25 := ⟨Tryz.underlying219⟩
instance : US Tryz.prog 236 215 := ⟨Tryz.underlying236⟩
open Go.ChangeShapes Go.WideShapes Go.ChangeAt Go.RowKit Go.Deep
section
variable {H : Type} {enc : TypeId × Value → H} {P : Program} {w : World}
end
theorem kZ {k : IntKind} {a b : Int} (h : a = b) : Ending.returned (.int k a) = .returned (.int k b) := by rw [h]
def iH (n : Nat) : Int := if 1 ≤ n ∧ n ≤ 8 then 0 else 1
theorem kO {n : Nat} (h1 : 1 ≤ n) (h2 : n ≤ 8) : iH n = 0 := by unfold iH; rw [if_pos ⟨h1, h2⟩]
theorem vE {n : Nat} (h : ¬ (1 ≤ n ∧ n ≤ 8)) : iH n = 1 := by unfold iH; rw [if_neg h]
theorem hY (w : World) (a : Option Addr) (n c : Nat) :
    Calls Tryz.prog 42 #[.slice a n c] w fun e w' => e = .returned (.int .i64 (iH n)) ∧ w' = w := by
 by_cases h : 1 ≤ n ∧ n ≤ 8
 ·rw [kO h.1 h.2]
  obtain ⟨h1, h2⟩ := h
  go_enter Tryz.func42, Tryz.ntmps42
  go_wp2
  go_ret
  exact ⟨rfl, rfl⟩
 ·rw [vE h]
  by_cases h1 : n < 1
  ·clear h
   go_enter Tryz.func42, Tryz.ntmps42
   go_wp2
   go_ret
   exact ⟨rfl, rfl⟩
  ·have h2 : 8 < n := by omega
   clear h
   go_enter Tryz.func42, Tryz.ntmps42
   go_wp2
   go_ret
   exact ⟨rfl, rfl⟩
theorem TreeOk.small {n : Nat} {l : List Pr} (h : TreeOk n l) {p : Pr} (hp : p ∈ l) : p.1.length ≤ 100000 ∧ p.2.length ≤ 100000 := by
 obtain ⟨_, h2, h3⟩ := h.ok p hp; omega
theorem VY {l : List Pr} {k v : By} (h : fL l k = true) : fD l k v = l.set (aT l k) (k, v) := by unfold fD; rw [if_pos h]
theorem ZQ {l : List Pr} {k v : By} (h : ¬ fL l k = true) : fD l k v = l.take (aT l k) ++ (k, v) :: l.drop (aT l k) := by unfold fD; rw [if_neg h]
theorem RH (f : aV) (w : Wr) : mH f [w] = fZ f w := by
 simp only [mH]
 cases fZ f w <;> rfl
set_option linter.unusedSimpArgs false
theorem eZ {α : Type} {l : List α} {k : Nat} {p : α} (h : l[k]? = some p) : l.take (k + 1) = l.take k ++ [p] := by
 obtain ⟨hk, rfl⟩ := List.getElem?_eq_some_iff.1 h
 exact List.take_succ_eq_append_getElem hk
theorem zG (F : Fz) (w : World) (v : Value) (p : Pr) (hs : Sat w F) (hv : tN F v p) (hk : p.1.length ≤ 100000) (hx : p.2.length ≤ 100000) :
    Calls Tryz.prog 64 #[v] w (dE w F fun F' u => tN F' u p) := by
 obtain ⟨x0, y0, x1, y1, rfl, h0, h1⟩ := hv
 have S := St.start hs
 go_enter Tryz.func64, Tryz.ntmps64
 refine aE fun K1 hK1 => ?_
 refine aB ?_
 refine bG S (v := fun n => .pointer (aA n 0)) rfl (bX (v := (.agg #[(.slice x0 p.1.length y0), (.slice x1 p.2.length y1)])) rfl) (fun n2 w3 S4 => ?_)
 refine sA S4 (uZ _) fun n5 w6 S7 => ?_
 refine aH ?_
 refine hK1 _ _ ?_
 refine aE fun K8 hK8 => ?_
 refine aP F 5 [(2, .made (fun F' u => Bs F' u p.1))] (by kernel_rfl) (by kernel_rfl) ?_
 simp only [cY]
 refine gf (nT _ _) ?_
 refine gl bH S7 1 ?_
 simp only [pq]
 refine eC rfl rfl (fun w9 C9 hF => bS (bZ (vs := #[(.slice x0 p.1.length y0)]) (jL rfl) rfl (gH _ _)) (dQ S7.sat C9 (dF _ _ _ p.1 ((St.tells S7 C9)).sat h0 (by omega)))) (fun b6 => ?_)
 refine gf (xT _ _) ?_
 refine gl bH S7 1 ?_
 refine bU ?_
 intro b7 b2 a0
 obtain ⟨b3, a7, b4⟩ := a0.get 2 rfl rfl
 have a8 := St.gives S7 a7
 have a1 : Le _ _ := a7.le S7.sat
 have a9 := b4
 generalize b3 = b9 at *
 obtain ⟨a2, a3, rfl, _⟩ := a9.shape
 clear a0
 simp only [cZ]
 refine aR a8 rfl (fn1 (gH _ _)) (dF _ _ _ p.2 (a8).sat (h1.mono a1) (by omega)) ?_
 intro c0 c1 c2 b5 a4 b0
 obtain ⟨a5, a6, rfl, _⟩ := b0.shape
 simp only [pq]
 refine dr (.agg #[(.slice a2 p.1.length a3), (.slice a5 p.2.length a6)]) (aL (eP rfl rfl) (by kernel_rfl)) ?_
 refine sW 0 b5 (dO) fun c3 b1 => ?_
 refine aH ?_
 refine hK8 _ _ ?_
 refine aN ?_
 try simp only [xt]
 refine bR (lG rfl ⟨_, rfl, lR b1 0 Tryz.underlying50 (dO)⟩) ?_
 exact ⟨_, _, rfl, b1.gr, ⟨_, _, _, _, rfl, (a9.mono a4), b0⟩⟩
theorem yF (F : Fz) (w : World) (v : Value) (l : List Pr) (hs : Sat w F) (hv : Prs F v l) (hl : l.length ≤ 100000) (hL : ∀ p ∈ l, p.1.length ≤ 100000 ∧ p.2.length ≤ 100000) :
    Calls Tryz.prog 62 #[v] w (qI w F 2 PrC 50 l) := by
 obtain ⟨a, c, rfl, hc1, hc2⟩ := Sl.shape hv
 unfold maxLen at hc2
 obtain ⟨d1, b2, b3, b4, b5⟩ := info_parts nS
 have S := St.start hs
 go_enter Tryz.func62, Tryz.ntmps62
 refine aE fun K1 hK1 => ?_
 refine aB ?_
 refine dy ?_
 refine aH ?_
 try simp only [xt]
 refine hK1 _ _ ?_
 refine aE fun K2 hK2 => ?_
 refine aB ?_
 refine dy ?_
 refine aH ?_
 try simp only [xt]
 refine hK2 _ _ ?_
 refine aE fun K3 hK3 => ?_
 refine aE fun K4 hK4 => ?_
 refine aB ?_
 refine aC ?_
 refine aH ?_
 try simp only [xt]
 refine hK4 _ _ ?_
 refine aO ?_
 have S5 := St.addNil S 2 PrC PrC.mono 50 w.heap.size
 refine aX (fun mm aa w8 => ∃ (k : Nat) (v : Value) (F6 : Fz) (u7 : Nat → Value), mm = l.length - k ∧ aa = ⟨([(.slice a l.length c), undef, Zn, v, undef, (u7 5), (.slice a l.length c), (nI l.length), (nI k)] ++ (usF u7 9 9 [undef])).toArray, []⟩ ∧ St w F w8 F6 [] [cN 2 PrC PrC.mono 50 w.heap.size v (l.take k)] ∧ Le F F6 ∧ (k ≤ l.length)) _ ⟨0, Zn, F, (TL [(.slice a l.length c), undef, Zn, Zn, undef, undef, (.slice a l.length c), (nI l.length), (iI 0), undef, undef, undef, undef, undef, undef, undef, undef, undef, undef]), rfl, rfl, S5, Le.refl _, (by omega)⟩ ?_
 rintro m9 e4 e5 ⟨k, v, F6, u7, rfl, hfr, a5, a6, hk⟩ e6 b6
 simp only [uzF, Nat.reduceAdd] at hfr; subst hfr
 refine aE fun e7 a7 => ?_
 refine aB ?_
 by_cases hc9 : k < l.length
 refine eQ ?_
 refine aH ?_
 try simp only [xt]
 refine a7 _ _ ?_
 refine aE fun e8 b7 => ?_
 refine aJ ?_
 refine aI ?_
 try simp only [xt]
 refine b7 _ _ ?_
 refine aE fun e9 b9 => ?_
 refine aO ?_
 refine aE fun f0 c0 => ?_
 refine aB ?_
 obtain ⟨p, hp⟩ : ∃ p, l[k]? = some p := ⟨l[k], List.getElem?_eq_getElem hc9⟩
 have hpl := hL p (List.mem_of_getElem? hp)
 have htk : (l.take k).length = k := by rw [List.length_take]; omega
 obtain ⟨c6, c7, c1, a8, a9, b0, b1, d2, d3, d4, d5⟩ := Prs.get (hv.mono a6) hp
 refine dr (pP c6 (c7 + k * 2)) (bQ (i := k) (sz := 2) Tryz.underlying47 (bM _) rfl c1 rfl (by omega) rfl) ?_
 refine dr _ (aD rfl (cX Tryz.underlying50 rfl (dO) (jF (St.fz a5 d2) (St.fz a5 d3)))) ?_
 simp only [pq]
 refine sA a5 (uZ _) fun d6 f1 d7 => ?_
 refine sW 0 d7 (dO) fun f2 c2 => ?_
 refine aH ?_
 try simp only [xt]
 refine c0 _ _ ?_
 refine aB ?_
 refine dx ?_
 refine dR c2 0 Tryz.underlying50 (dO) ?_
 simp only [pq]
 refine aR c2 rfl (fn1 (RF _ _)) (zG _ _ _ p (c2).sat ⟨_, _, _, _, rfl, d4, d5⟩ (by omega) (by omega)) ?_
 intro f3 f4 d8 d9 c3 e0
 obtain ⟨a0, a1, a2, a3, rfl, c8, c9⟩ := e0
 refine bG d9 (v := fun n => .slice (aA n 0) 1 1) rfl (cM (ps := #[(0, (.agg #[(.slice a0 p.1.length a1), (.slice a2 p.2.length a3)]))]) (cells := #[(.slice a0 p.1.length a1), (.slice a2 p.2.length a3)]) (E := 50) (cT rfl) (fun w => by kernel_rfl)) (fun e1 f5 d0 => ?_)
 simp only [pq]
 refine eV (i := 0) (r := 0) (p := p) (cs := [(.slice a0 p.1.length a1), (.slice a2 p.2.length a3)]) d0 rfl d1 (.agg #[Zn, Zn]) 48 Tryz.underlying47 b2 b3 b4 b5 rfl (by decide) rfl rfl rfl rfl rfl (PrC.oneCell ⟨_, _, rfl, c8, c9⟩) (⟨_, _, rfl, c8, c9⟩) (Nat.le_refl _) d0.gr.below.size (by unfold maxLen; omega) (by omega) ?_
 intro c4 f6 a4 e2
 simp only [pq]
 have a4 := St.drop a4 (.cons _ (List.Sublist.refl _))
 refine dy ?_
 refine aH ?_
 try simp only [xt]
 refine b9 _ _ ?_
 refine aB ?_
 refine cV (k + 1) ?_
 refine dx ?_
 simp only [pq]
 refine aH ?_
 try simp only [xt]
 have a4 := St.drop a4 (.cons _ (List.Sublist.refl _))
 rw [← eZ hp] at a4
 exact b6 _ _ _ (by omega) ⟨(k + 1), c4, d8, (TL [(.slice a l.length c), undef, Zn, c4, undef, (pP d6 0), (.slice a l.length c), (nI l.length), (nI (k + 1)), bT, (pP c6 (c7 + k * 2)), (.agg #[(.slice a8 p.1.length a9), (.slice b0 p.2.length b1)]), v, (.agg #[(.slice a8 p.1.length a9), (.slice b0 p.2.length b1)]), (.agg #[(.slice a0 p.1.length a1), (.slice a2 p.2.length a3)]), (.slice (aA e1 0) 1 1), c4, (nI (k + 1)), undef]), rfl, rfl, a4, (a6.trans c3), (by omega)⟩
 refine eL ?_
 refine aH ?_
 try simp only [xt]
 refine a7 _ _ ?_
 refine aE fun f7 e3 => ?_
 refine aF ?_
 refine cU ?_
 try simp only [xt]
 refine hK3 _ _ ?_
 refine aE fun f8 c5 => ?_
 refine aB ?_
 refine aC ?_
 refine aH ?_
 try simp only [xt]
 refine c5 _ _ ?_
 refine aN ?_
 try simp only [xt]
 refine bR (aZ rfl (gD rfl)) ?_
 obtain rfl : k = l.length := by omega
 exact ⟨_, _, rfl, a5.gr, by have h := St.own (i := 0) a5 rfl; rwa [List.take_length] at h⟩
theorem AE {P : Program} {w : World} {F : Fz} {v : Value} {l : List UInt8} (hs : Sat w F) (hv : Bs F v l) : (Extern.Bytes.bytesOf v).run P w = .ok ⟨l.toArray⟩ w := by
 obtain ⟨a, c, rfl, h1, h2⟩ := hv.shape
 cases a with
 | none =>
  obtain ⟨_, _, q1, _, _, q4, _⟩ := hv
  cases q1
  have : l = [] := List.eq_nil_of_length_eq_zero (q4 rfl).1
  subst this
  rfl
 | some a =>
  by_cases hl : l = []
  ·subst hl; rfl
  ·have hpos := List.length_pos_iff.2 hl
   obtain ⟨b, o, e, hc⟩ := hv.addr hpos
   cases e
   have key : ∀ (m : List UInt8) (j : Nat) (acc : ByteArray), (∀ (i : Nat) (h : i < m.length), w.cell? ⟨b, o + j + i, none⟩ = some (.int .u8 (m[i].toNat : Int))) → (Extern.Bytes.loadBytes ⟨b, o + j, none⟩ m.length acc).run P w = .ok ⟨acc.data ++ m.toArray⟩ w := by
    intro m
    induction m with
    | nil => intro j acc _; simp [Extern.Bytes.loadBytes]
    | cons x m ih =>
     intro j acc h
     have h0 := h 0 (by simp)
     simp only [Nat.add_zero, List.getElem_cons_zero] at h0
     have e : (⟨b, o + j, none⟩ : Addr).add 1 = ⟨b, o + (j + 1), none⟩ := by rw [Addr.add_mid]; rfl
     have ih' := ih (j + 1) (acc.push x) (fun i hi => by
      have := h (i + 1) (by simpa using hi)
      simp only [List.getElem_cons_succ] at this
      rw [show o + (j + 1) + i = o + j + (i + 1) from by omega]; exact this)
     simp only [List.length_cons, Extern.Bytes.loadBytes, Sem.run_bind, run_load, h0, Result.andThen]
     rw [e]
     simp only [Int.toNat_natCast]
     rw [show x.toNat.toUInt8 = x from by simp]
     rw [ih']
     congr 2
     simp [ByteArray.push]
   have := key l 0 .empty (fun i hi => hs.cell (hc i hi))
   simp only [Nat.add_zero] at this
   show (Extern.Bytes.loadBytes ⟨b, o, none⟩ l.length .empty).run P w = _
   rw [this]
   congr 2
   simp [ByteArray.empty, ByteArray.emptyWithCapacity]
   rfl
theorem sQ : ∀ (a b : List UInt8), Lib.compareBytes a b = fC a b
  | [], [] => by simp [Lib.compareBytes, fC, Op.bytesLess]
  | [], _ :: _ => by simp [Lib.compareBytes, fC, Op.bytesLess]
  | _ :: _, [] => by simp [Lib.compareBytes, fC, Op.bytesLess]
  | x :: a, y :: b => by
    have ih := sQ a b
    unfold Lib.compareBytes
    rw [ih]
    unfold fC
    simp only [Op.bytesLess, Bool.or_eq_true, decide_eq_true_eq, Bool.and_eq_true, beq_iff_eq, List.cons.injEq]
    by_cases h1 : x < y
    · simp [h1]
    · by_cases h2 : y < x
      · have h3 : x ≠ y := by rintro rfl; exact h1 h2
        simp [h1, h2, h3]
      · have h3 : x = y := by
          apply UInt8.toNat_inj.1
          have e1 : ¬ x.toNat < y.toNat := fun q => h1 (UInt8.lt_iff_toNat_lt.2 q)
          have e2 : ¬ y.toNat < x.toNat := fun q => h2 (UInt8.lt_iff_toNat_lt.2 q)
          omega
        subst h3
        simp [h1]
theorem wP {w : World} {F : Fz} {v u : Value} {l m : List UInt8} (hs : Sat w F) (hv : Bs F v l) (hu : Bs F u m) : (callFunc 59 #[v, u]).run Tryz.prog w = .ok (.value (.int .i64 (fC l m))) w := by
 rw [run_callFunc_extern Tryz.func59 (by kernel_rfl) (by kernel_rfl) (by kernel_rfl) (e := Extern.BytealgCompare.compare) (by kernel_rfl)]
 have e : (Extern.BytealgCompare.compare #[v, u]).run Tryz.prog w = .ok (goInt (Extern.BytealgCompare.cmp ⟨l.toArray⟩ ⟨m.toArray⟩)) w := by
  change Sem.run Tryz.prog (do pure (goInt (Extern.BytealgCompare.cmp (← Extern.Bytes.bytesOf v) (← Extern.Bytes.bytesOf u)))) w = _
  simp only [Sem.run_bind, AE hs hv, AE hs hu, Result.andThen_ok, Sem.run_pure]
 rw [e, Lib.cmp_eq, sQ]
 rfl
theorem fF (F : Fz) (w : World) (v u : Value) (l m : List UInt8) (hs : Sat w F) (hv : Bs F v l) (hu : Bs F u m) :
    Calls Tryz.prog 44 #[v, u] w (cR w (.int .i64 (fC l m))) := by
 obtain ⟨a, c, rfl, _⟩ := hv.shape
 obtain ⟨a2, c2, rfl, _⟩ := hu.shape
 have S := St.start hs
 go_enter Tryz.func44, Tryz.ntmps44
 refine sk fun K1 hK1 => ?_
 refine dy ?_
 refine wn hK1 ?_
 refine sk fun K2 hK2 => ?_
 iterate 2 refine dx ?_
 refine dr (.int .i64 (fC l m)) (QX (vs := #[(.slice a l.length c), (.slice a2 m.length c2)]) (gF rfl rfl) rfl (wP (S).sat hv hu)) ?_
 simp only [pq]
 refine dy ?_
 refine wn hK2 ?_
 refine aN ?_
 try simp only [xt]
 refine bR (aZ rfl (gD rfl)) ?_
 exact ⟨rfl, S.gr.below⟩
theorem nW (F : Fz) (w : World) (v u : Value) (p q : Pr) (hs : Sat w F) (hv : tN F v p) (hu : tN F u q) :
    Calls Tryz.prog 58 #[v, u] w (cR w (.int .i64 (fC p.1 q.1))) := by
 obtain ⟨x0, y0, x1, y1, rfl, h0, h1⟩ := hv
 obtain ⟨x0q, y0q, x1q, y1q, rfl, k0, k1⟩ := hu
 have S := St.start hs
 go_enter Tryz.func58, Tryz.ntmps58
 refine sk fun K1 hK1 => ?_
 refine bG S (v := fun n => .pointer (aA n 0)) rfl (bX (v := (.agg #[(.slice x0 p.1.length y0), (.slice x1 p.2.length y1)])) rfl) (fun n2 w3 S4 => ?_)
 refine bG S4 (v := fun n => .pointer (aA n 0)) rfl (bX (v := (.agg #[(.slice x0q q.1.length y0q), (.slice x1q q.2.length y1q)])) rfl) (fun n5 w6 S7 => ?_)
 simp only [pq]
 refine dy ?_
 refine wn hK1 ?_
 refine sk fun K8 hK8 => ?_
 refine aC ?_
 refine aK (v := (.int .i64 (fC p.1 q.1))) S7 rfl (fn2 (wN _ _)) (fF _ _ _ _ p.1 q.1 (S7).sat h0 k0) (fun w9 a0 => ?_)
 refine dy ?_
 refine wn hK8 ?_
 refine aN ?_
 try simp only [xt]
 refine bR (aZ rfl (gD rfl)) ?_
 exact ⟨rfl, a0.gr.below⟩
def fW (p : Pr) : Int := if 32 < p.2.length then 1 else cQ p.1.length
theorem HI (F : Fz) (w : World) (v : Value) (p : Pr) (hs : Sat w F) (hv : tN F v p) :
    Calls Tryz.prog 57 #[v] w (cR w (.int .i64 (fW p))) := by
 obtain ⟨x0, y0, x1, y1, rfl, h0, h1⟩ := hv
 have S := St.start hs
 go_enter Tryz.func57, Tryz.ntmps57
 refine sk fun K1 hK1 => ?_
 refine bG S (v := fun n => .pointer (aA n 0)) rfl (bX (v := (.agg #[(.slice x0 p.1.length y0), (.slice x1 p.2.length y1)])) rfl) (fun n2 w3 S4 => ?_)
 refine dy ?_
 refine wn hK1 ?_
 refine aE fun K5 hK5 => ?_
 refine sk fun K6 hK6 => ?_
 refine aC ?_
 by_cases hc6 : 32 < p.2.length
 refine qW ?_
 refine wn hK6 ?_
 refine aJ ?_
 refine sk fun K7 hK7 => ?_
 refine dy ?_
 refine wn hK7 ?_
 refine aN ?_
 try simp only [xt]
 refine bR (aZ rfl (gD rfl)) ?_
 refine ⟨?_, S4.gr.below⟩
 unfold fW
 first | rw [if_pos (by omega)] | rw [if_neg (by omega)]
 refine lM ?_
 simp only [pq]
 refine wn hK6 ?_
 refine aF ?_
 refine aI ?_
 refine hK5 _ _ ?_
 refine sk fun K8 hK8 => ?_
 refine aC ?_
 refine aK (v := (.int .i64 (cQ p.1.length))) S4 rfl (fn1 (wO _ _)) (dK (iE _ _ _ p.1 h0)) (fun w9 a0 => ?_)
 refine dy ?_
 simp only [pq]
 refine wn hK8 ?_
 refine aN ?_
 try simp only [xt]
 refine bR (aZ rfl (gD rfl)) ?_
 refine ⟨?_, a0.gr.below⟩
 unfold fW
 first | rw [if_pos (by omega)] | rw [if_neg (by omega)]
def oR (l : List Pr) : Nat → Nat → Int
  | 0, _ => 0
  | n + 1, k => match l[k]? with
    | none => 0
    | some p => if fW p ≠ 0 then fW p else if 0 < k ∧ 0 ≤ fC (l.getD (k - 1) ([], [])).1 p.1 then 3 else oR l n (k + 1)
def jB (l : List Pr) : Int := if 60 < l.length then 1 else oR l l.length 0
theorem vF {l : List Pr} {k : Nat} {p : Pr} (hp : l[k]? = some p) : oR l (l.length - k) k = if fW p ≠ 0 then fW p else if 0 < k ∧ 0 ≤ fC (l.getD (k - 1) ([], [])).1 p.1 then 3 else oR l (l.length - (k + 1)) (k + 1) := by
 obtain ⟨hk, _⟩ := List.getElem?_eq_some_iff.1 hp
 rw [show l.length - k = (l.length - (k + 1)) + 1 from by omega]
 simp only [oR, hp]
theorem RI {l : List Pr} {k : Nat} (hk : l.length ≤ k) : oR l (l.length - k) k = 0 := by rw [show l.length - k = 0 from by omega]; rfl
theorem tX {p : Pr} : fW p = 0 ↔ CR p := by
 unfold fW CR cQ
 split
 ·omega
 ·split <;> omega
theorem oS {l : List Pr} : jB l = 0 ↔ TreeOk 60 l := by
 unfold jB
 by_cases hl : 60 < l.length
 rw [if_pos hl]
 exact ⟨fun h => by omega, fun h => by have := h.len; omega⟩
 rw [if_neg hl]
 have key : ∀ n k, n + k = l.length → (oR l n k = 0 ↔ ∀ i (hi : i < l.length), k ≤ i → CR l[i] ∧ (0 < i → Lt (l.getD (i - 1) ([], [])).1 l[i].1)) := by
  intro n
  induction n with
  | zero => intro k hk; simp only [oR]; exact ⟨fun _ i hi h => by omega, fun _ => trivial⟩
  | succ n ih =>
   intro k hk
   have hk' : k < l.length := by omega
   simp only [oR, List.getElem?_eq_getElem hk']
   have ihk := ih (k + 1) (by omega)
   by_cases hp : fW l[k] = 0
   rw [if_neg (by simp [hp])]
   by_cases hc : 0 < k ∧ 0 ≤ fC (l.getD (k - 1) ([], [])).1 l[k].1
   rw [if_pos hc]
   refine ⟨fun h => by omega, fun h => ?_⟩
   have := (h k hk' (Nat.le_refl _)).2 hc.1
   have := rL.2 this
   omega
   rw [if_neg hc, ihk]
   refine ⟨fun h i hi hki => ?_, fun h i hi hki => h i hi (by omega)⟩
   by_cases e : i = k
   subst e
   refine ⟨tX.1 hp, fun h0 => rL.1 ?_⟩
   have : ¬ 0 ≤ fC (l.getD (i - 1) ([], [])).1 l[i].1 := fun h => hc ⟨h0, h⟩
   omega
   exact h i hi (by omega)
   rw [if_pos hp]
   exact ⟨fun h => absurd h hp, fun h => absurd (tX.2 (h k hk' (Nat.le_refl _)).1) hp⟩
 rw [key l.length 0 (by omega)]
 constructor
 intro h
 refine ⟨by omega, fun p hp => ?_, ?_⟩
 obtain ⟨i, hi, rfl⟩ := List.mem_iff_getElem.1 hp
 exact (h i hi (by omega)).1
 have step : ∀ j i (hi : i < l.length) (hj : j < l.length), i < j → Lt l[i].1 l[j].1 := by
  intro j
  induction j with
  | zero => intro i _ _ h; omega
  | succ j ih =>
   intro i hi hj hij
   have h1 := (h (j + 1) hj (by omega)).2 (by omega)
   simp only [Nat.add_sub_cancel, List.getD, List.getElem?_eq_getElem (show j < l.length by omega), Option.getD_some] at h1
   by_cases e : i = j
   subst e; exact h1
   exact mF _ _ _ (ih i hi (by omega) (by omega)) h1
 exact List.pairwise_iff_getElem.2 fun i j hi hj hij => step j i hi hj hij
 intro h i hi _
 refine ⟨h.ok _ (List.getElem_mem hi), fun h0 => ?_⟩
 simp only [List.getD, List.getElem?_eq_getElem (show i - 1 < l.length by omega), Option.getD_some]
 exact List.pairwise_iff_getElem.1 h.rise (i - 1) i (by omega) hi (by omega)
theorem iP (F : Fz) (w : World) (v : Value) (l : List Pr) (hs : Sat w F) (hv : Prs F v l) :
    Calls Tryz.prog 43 #[v] w (cR w (.int .i64 (jB l))) := by
 obtain ⟨a, c, rfl, hc1, hc2⟩ := Sl.shape hv
 unfold maxLen at hc2
 have S := St.start hs
 go_enter Tryz.func43, Tryz.ntmps43
 refine sk fun K1 hK1 => ?_
 refine dy ?_
 refine wn hK1 ?_
 refine aE fun K2 hK2 => ?_
 refine sk fun K3 hK3 => ?_
 refine aC ?_
 by_cases hc8 : 60 < l.length
 refine qW ?_
 refine wn hK3 ?_
 refine aJ ?_
 refine sk fun K4 hK4 => ?_
 refine dy ?_
 refine wn hK4 ?_
 refine aN ?_
 try simp only [xt]
 refine bR (aZ rfl (gD rfl)) ?_
 exact ⟨by unfold jB; rw [if_pos (by omega)], S.gr.below⟩
 refine lM ?_
 simp only [pq]
 refine wn hK3 ?_
 refine aF ?_
 refine aI ?_
 refine hK2 _ _ ?_
 refine aE fun K5 hK5 => ?_
 refine sk fun K6 hK6 => ?_
 refine aC ?_
 refine wn hK6 ?_
 refine aO ?_
 refine aX (fun mm aa w8 => ∃ (k : Nat) (u7 : Nat → Value), mm = l.length - k ∧ u7 = eB aa ∧ aa = ⟨([(.slice a l.length c), undef] ++ (usF u7 2 4 ([(.slice a l.length c), (nI l.length), bF, (.slice a l.length c), (nI l.length), (nI k)] ++ (usF u7 12 22 [])))).toArray, []⟩ ∧ St w F w8 F [] [] ∧ (k ≤ l.length) ∧ (oR l l.length 0 = oR l (l.length - k) k)) _ ⟨0, _, rfl, rfl, rfl, S, (by omega), rfl⟩ ?_
 rintro m9 f1 f2 ⟨k, u7, rfl, -, hfr, a7, hk, hT⟩ f3 a2
 simp only [uzF, Nat.reduceAdd] at hfr; subst hfr
 refine sk fun f4 a3 => ?_
 by_cases b0 : k < l.length
 refine eQ ?_
 refine wn a3 ?_
 refine aE fun f5 b1 => ?_
 refine aJ ?_
 refine aI ?_
 refine b1 _ _ ?_
 refine aE fun f6 a4 => ?_
 refine aO ?_
 refine sk fun f7 b2 => ?_
 refine dx ?_
 simp only [pq]
 obtain ⟨p, hp⟩ : ∃ p, l[k]? = some p := ⟨l[k], List.getElem?_eq_getElem b0⟩
 obtain ⟨d5, d6, b3, b4, b5, b6, b7, d7, d8, d2, d3⟩ := Prs.get hv hp
 refine dr (pP d5 (d6 + k * 2)) (bQ (i := k) (sz := 2) Tryz.underlying47 (bM _) rfl b3 rfl (by omega) rfl) ?_
 refine dr _ (aD rfl (cX Tryz.underlying50 rfl (dO) (jF (St.fz a7 d7) (St.fz a7 d8)))) ?_
 refine sA a7 (uZ _) fun f8 f9 d9 => ?_
 simp only [pq]
 refine dy ?_
 refine sW 0 d9 (dO) fun g0 b9 => ?_
 refine wn b2 ?_
 refine aE fun g1 c0 => ?_
 refine sk fun g2 c1 => ?_
 refine dR b9 0 Tryz.underlying50 (dO) ?_
 simp only [pq]
 refine aK (v := (.int .i64 (fW p))) b9 rfl (fn1 (ZK _ _)) (HI _ _ _ p (b9).sat ⟨_, _, _, _, rfl, d2, d3⟩) (fun g3 a1 => ?_)
 refine dy ?_
 refine wn c1 ?_
 refine sk fun g4 a5 => ?_
 refine dx ?_
 simp only [pq]
 by_cases c2 : (fW p) = (0 : Int)
 refine kL ?_
 refine wn a5 ?_
 refine aF ?_
 refine aI ?_
 refine c0 _ _ ?_
 refine aE fun g5 a0 => ?_
 by_cases h0 : 0 < k
 obtain ⟨q, hq⟩ : ∃ q, l[k - 1]? = some q := ⟨l[k - 1], List.getElem?_eq_getElem (by omega)⟩
 have hqd : l.getD (k - 1) ([], []) = q := by rw [List.getD_eq_getElem?_getD, hq]; rfl
 obtain ⟨e0, e1, c3, e2, e3, e4, e5, e6, e7, e8, e9⟩ := Prs.get hv hq
 refine aP F 9 [] (by kernel_rfl) (by kernel_rfl) ?_
 simp only [cY]
 refine gm ?_
 refine gv bT (fun _ _ => tM (m := ((k : Nat) : Int)) (n := (0 : Int)) (b := true) rfl rfl (decide_eq_true (by omega))) ?_
 simp only [pq]
 iterate 3 refine gm ?_
 simp only [pq]
 refine gv (nI (k - 1)) (fun _ _ => rT (m := ((k : Nat) : Int)) (n := (1 : Int)) (r := (((k - 1) : Nat) : Int)) rfl rfl (by omega) (by omega) (by omega)) ?_
 refine gv (pP e0 (e1 + (k - 1) * 2)) (fun _ _ => bQ (i := (k - 1)) (sz := 2) Tryz.underlying47 (bM _) rfl c3 rfl (by omega) rfl) ?_
 refine gv _ (fun _ a8 => aD rfl (cX Tryz.underlying50 rfl (dO) (jF (St.fz (St.tells a1 a8) e6) (St.fz (St.tells a1 a8) e7)))) ?_
 simp only [pq]
 refine gv _ (fun _ a8 => aD rfl (cX Tryz.underlying50 rfl (dO) (St.range (St.tells a1 a8) (i := 0) rfl 0 [(.slice b4 p.1.length b5), (.slice b6 p.2.length b7)] (dH 0 rfl)))) ?_
 refine bU ?_
 intro g6 c4 c5
 clear c5
 have d4 := St.tells a1 c4
 simp only [cZ]
 refine aK (v := (.int .i64 (fC q.1 p.1))) d4 rfl (fn2 (JY _ _)) (nW _ _ _ _ q p (d4).sat ⟨_, _, _, _, rfl, e8, e9⟩ ⟨_, _, _, _, rfl, d2, d3⟩) (fun g7 a9 => ?_)
 simp only [pq]
 by_cases a6 : (0 : Int) ≤ (fC q.1 p.1)
 refine Cy ?_
 refine dp ?_
 refine wlK a0 ?_
 refine aJ ?_
 refine sk fun g8 c6 => ?_
 refine dy ?_
 simp only [pq]
 refine wn c6 ?_
 refine aN ?_
 try simp only [xt]
 refine bR (aZ rfl (gD rfl)) ?_
 exact ⟨by unfold jB; rw [if_neg (by omega), hT, vF hp, if_neg (by omega), if_pos ⟨h0, by rw [hqd]; exact a6⟩], a9.gr.below⟩
 refine Cz ?_
 refine dp ?_
 refine wlK a0 ?_
 refine aF ?_
 refine aI ?_
 refine a4 _ _ ?_
 refine aB ?_
 refine cV (k + 1) ?_
 refine dx ?_
 simp only [pq]
 refine aH ?_
 have a9 := St.drop a9 (.cons _ (List.Sublist.refl _))
 exact a2 _ _ _ (by omega) ⟨(k + 1), _, rfl, rfl, rfl, a9, (by omega), (by rw [hT, vF hp, if_neg (by omega), if_neg (fun h => a6 (by have := h.2; rw [hqd] at this; exact this))])⟩
 refine aP F 9 [] (by kernel_rfl) (by kernel_rfl) ?_
 simp only [cY]
 refine gm ?_
 refine gv bF (fun _ _ => tM (m := ((k : Nat) : Int)) (n := (0 : Int)) (b := false) rfl rfl (decide_eq_false (by omega))) ?_
 refine gm ?_
 simp only [pq]
 refine cW (bL rfl rfl rfl (c := false) rfl (by decide)) ?_
 simp only [pq]
 refine cW (bL rfl rfl rfl (c := false) rfl (by decide)) ?_
 simp only [pq]
 refine cW (bL rfl rfl rfl (c := false) rfl (by decide)) ?_
 simp only [pq]
 refine cW (bL rfl rfl rfl (c := false) rfl (by decide)) ?_
 simp only [pq]
 refine cW (bL rfl rfl rfl (c := false) rfl (by decide)) ?_
 simp only [pq]
 refine cW (bL rfl rfl rfl (c := false) rfl (by decide)) ?_
 refine bU ?_
 intro g9 c7 c8
 clear c8
 have c9 := St.tells a1 c7
 simp only [cZ]
 refine aC ?_
 refine wlK a0 ?_
 refine aF ?_
 refine aI ?_
 refine a4 _ _ ?_
 refine aB ?_
 refine cV (k + 1) ?_
 refine dx ?_
 simp only [pq]
 refine aH ?_
 have c9 := St.drop c9 (.cons _ (List.Sublist.refl _))
 exact a2 _ _ _ (by omega) ⟨(k + 1), _, rfl, rfl, rfl, c9, (by omega), (by rw [hT, vF hp, if_neg (by omega), if_neg (fun h => h0 h.1)])⟩
 refine mJ ?_
 refine wn a5 ?_
 refine aJ ?_
 refine sk fun h1 d0 => ?_
 refine aC ?_
 refine wn d0 ?_
 refine aN ?_
 try simp only [xt]
 refine bR (aZ rfl (gD rfl)) ?_
 exact ⟨by unfold jB; rw [if_neg (by omega), hT, vF hp, if_pos c2], a1.gr.below⟩
 refine eL ?_
 refine wn a3 ?_
 refine aE fun h2 f0 => ?_
 refine aF ?_
 refine cU ?_
 refine hK5 _ _ ?_
 refine sk fun h3 d1 => ?_
 refine dy ?_
 refine wn d1 ?_
 refine aN ?_
 try simp only [xt]
 refine bR (aZ rfl (gD rfl)) ?_
 exact ⟨by unfold jB; rw [if_neg (by omega), hT, RI (by omega)], a7.gr.below⟩
theorem UJ (z : Nat) (h : z < 9223372036854775808) (w : World) : (convert 3 132 (.int .i64 (z : Int))).run Tryz.prog w = .ok (.int .u64 (z : Int)) w := by
 have e : IntKind.u64.wrap (z : Int) = (z : Int) := by
  rw [show IntKind.u64.wrap (z : Int) = (z : Int) % 18446744073709551616 from rfl]; omega
 go_simp
theorem UK (z : Nat) (h : z < 9223372036854775808) (w : World) : (convert 132 3 (.int .u64 (z : Int))).run Tryz.prog w = .ok (.int .i64 (z : Int)) w := by
 have e : IntKind.i64.wrap (z : Int) = (z : Int) := jX (by omega) (by omega)
 go_simp
theorem ZS (z : Nat) (w : World) (X : TypeId) : (binOp .shr X (.int .u64 (z : Int)) (.int .u64 1)).run Tryz.prog w = .ok (.int .u64 ((z / 2 : Nat) : Int)) w := by
 have e : ((z / 2 : Nat) : Int) = (z : Int) / 2 := by omega
 rw [e]
 go_simp
theorem RJ {P : Program} {ρ : Operand → Value} {w : World} {d : Option Tmp} {t X Y : TypeId} {pos : String} {after : Array Edge} {guard : Option (Nat × Bool)} {x y : Operand} {k k' : IntKind} {m n : Int} {v : Value} {op : BinOp} (hop : op = .shr ∨ op = .shl) (hx : ρ x = .int k m) (hy : ρ y = .int k' n) (h : (binOp op X (.int k m) (.int k' n)).run P w = .ok v w) : (execOp ρ ⟨d, .binOp op X x y Y, t, pos, after, guard⟩).run P w = .ok (.value v) w := by
 have e : (eqGuard op X x y (.int k m) (.int k' n)).run P w = .ok () w := by
  unfold eqGuard
  rcases hop with rfl | rfl <;> rfl
 simp only [execOp, hx, hy, Sem.run_bind, e, Result.andThen_ok, h, Sem.run_pure]
theorem KD {α : Type} {l : List (By × α)} (hr : iR l) {h : Nat} {p : By × α} {k : By} (hp : l[h]? = some p) (hlt : fC p.1 k < 0) : h + 1 ≤ aT l k := by
 obtain ⟨hh, rfl⟩ := List.getElem?_eq_some_iff.1 hp
 rcases Nat.lt_or_ge h (aT l k) with h1 | h1
 ·exact h1
 ·exact absurd (rL.1 hlt) (xG hr h1 hh)
theorem ZT {α : Type} {l : List (By × α)} {h : Nat} {p : By × α} {k : By} (hp : l[h]? = some p) (hge : ¬ fC p.1 k < 0) : aT l k ≤ h := by
 obtain ⟨hh, rfl⟩ := List.getElem?_eq_some_iff.1 hp
 rcases Nat.lt_or_ge h (aT l k) with h1 | h1
 ·exact absurd (rL.2 (xF (f := (·.1)) h1 hh)) hge
 ·exact h1
theorem UL {α : Type} {l : List (By × α)} (hr : iR l) {p : By × α} {k : By} (hp : l[aT l k]? = some p) (h : fC p.1 k = 0) : fL l k = true := by
 obtain ⟨hh, rfl⟩ := List.getElem?_eq_some_iff.1 hp
 exact (iM hr).2 ⟨hh, TI.1 h⟩
theorem RK {α : Type} {l : List (By × α)} (hr : iR l) {p : By × α} {k : By} (hp : l[aT l k]? = some p) (h : ¬ fC p.1 k = 0) : fL l k = false := by
 obtain ⟨hh, rfl⟩ := List.getElem?_eq_some_iff.1 hp
 cases e : fL l k with
 | false => rfl
 | true => obtain ⟨_, h2⟩ := (iM hr).1 e; exact absurd (TI.2 h2) h
theorem KE {α : Type} {l : List (By × α)} (hr : iR l) {k : By} (h : ¬ aT l k < l.length) : fL l k = false := by
 cases e : fL l k with
 | false => rfl
 | true => obtain ⟨h1, _⟩ := (iM hr).1 e; exact absurd h1 h
theorem KF (F : Fz) (w : World) (v u : Value) (l : List Pr) (q : Pr) (hs : Sat w F) (hv : Prs F v l) (hu : tN F u q) (hr : iR l) (hl : l.length ≤ 1000000) :
    Calls Tryz.prog 72 #[v, u, .func (.func 58) #[] #[]] w (cR w (.tuple #[.int .i64 (aT l q.1 : Nat), .bool (fL l q.1)])) := by
 obtain ⟨a, c, rfl, hc1, hc2⟩ := Sl.shape hv
 obtain ⟨x0q, y0q, x1q, y1q, rfl, k0, k1⟩ := hu
 unfold maxLen at hc2
 have S := St.start hs
 go_enter Tryz.func72, Tryz.ntmps72
 refine sk fun K1 hK1 => ?_
 refine bG S (v := fun n => .pointer (aA n 0)) rfl (bX (v := (.agg #[(.slice x0q q.1.length y0q), (.slice x1q q.2.length y1q)])) rfl) (fun n2 w3 S4 => ?_)
 iterate 2 refine dy ?_
 refine wn hK1 ?_
 refine sk fun K5 hK5 => ?_
 refine aC ?_
 refine wn hK5 ?_
 refine sk fun K6 hK6 => ?_
 refine aC ?_
 refine wn hK6 ?_
 refine aE fun K7 hK7 => ?_
 refine aO ?_
 refine aX (fun mm aa w9 => ∃ (i : Nat) (j : Nat) (u8 : Nat → Value), mm = j - i ∧ u8 = eB aa ∧ aa = ⟨([(.slice a l.length c), (.agg #[(.slice x0q q.1.length y0q), (.slice x1q q.2.length y1q)]), (.func (.func 58) #[] #[]), undef, (pP n2 0), undef, (iI 0), bF, (nI l.length), (nI i), (nI j), (u8 11), (.slice a l.length c), (nI l.length), (nI l.length)] ++ (usF u8 15 20 (udF 14 []))).toArray, []⟩ ∧ St w F w9 F [⟨n2, [(.slice x0q q.1.length y0q), (.slice x1q q.2.length y1q)], 50⟩] [] ∧ (i ≤ j) ∧ (j ≤ l.length) ∧ (i ≤ aT l q.1) ∧ (aT l q.1 ≤ j)) _ ⟨0, l.length, _, rfl, rfl, rfl, S4, (by omega), (by omega), (by omega), (kJ _ _ _)⟩ ?_
 rintro f1 f2 f3 ⟨i, j, u8, rfl, -, hfr, a0, hij, hj, hip, hjp⟩ f4 a9
 simp only [uzF, Nat.reduceAdd] at hfr; subst hfr
 refine aE fun f5 b9 => ?_
 refine sk fun f6 b0 => ?_
 refine aC ?_
 by_cases d9 : i < j
 ·refine eQ ?_
  refine wn b0 ?_
  refine aJ ?_
  refine aI ?_
  refine b9 _ _ ?_
  refine aO ?_
  refine sk fun f7 c0 => ?_
  iterate 2 refine dx ?_
  refine cV (i + j) ?_
  simp only [pq]
  refine dr (.int .u64 (((i + j) : Nat) : Int)) (bJ (v := (nI (i + j))) rfl (UJ (i + j) (by omega) _)) ?_
  refine dr (.int .u64 (((i + j) / 2 : Nat) : Int)) (RJ (.inl rfl) rfl rfl (ZS (i + j) _ _)) ?_
  refine dr (.int .i64 (((i + j) / 2 : Nat) : Int)) (bJ (v := (.int .u64 (((i + j) / 2 : Nat) : Int))) rfl (UK ((i + j) / 2) (by omega) _)) ?_
  simp only [pq]
  refine dy ?_
  refine wn c0 ?_
  refine aE fun f8 b1 => ?_
  obtain ⟨p, hp⟩ : ∃ p, l[(i + j) / 2]? = some p := ⟨l[(i + j) / 2], List.getElem?_eq_getElem (by omega)⟩
  obtain ⟨e0, e3, c1, b2, b3, b4, b5, e4, e5, e6, e7⟩ := Prs.get hv hp
  refine aP F 6 [] (by kernel_rfl) (by kernel_rfl) ?_
  simp only [cY]
  iterate 2 refine gm ?_
  simp only [pq]
  refine gm ?_
  refine gv (pP e0 (e3 + ((i + j) / 2) * 2)) (fun _ _ => bQ (i := (i + j) / 2) (sz := 2) Tryz.underlying47 (bM _) rfl c1 rfl (by omega) rfl) ?_
  refine gv _ (fun _ b7 => aD rfl (cX Tryz.underlying50 rfl (dO) (jF (St.fz (St.tells a0 b7) e4) (St.fz (St.tells a0 b7) e5)))) ?_
  simp only [pq]
  refine gv _ (fun _ b7 => aD rfl (cX Tryz.underlying50 rfl (dO) (St.range (St.tells a0 b7) (i := 0) rfl 0 [(.slice x0q q.1.length y0q), (.slice x1q q.2.length y1q)] (dH 0 rfl)))) ?_
  refine bU ?_
  intro f9 c2 c3
  clear c3
  have d1 := St.tells a0 c2
  simp only [cZ]
  refine aK (v := (.int .i64 (fC p.1 q.1))) d1 rfl (tL (fs := #[]) (cs := #[]) (vs := #[(.agg #[(.slice b2 p.1.length b3), (.slice b4 p.2.length b5)]), (.agg #[(.slice x0q q.1.length y0q), (.slice x1q q.2.length y1q)])]) rfl (DF (fs := #[]) (cs := #[]) (xs := #[(.agg #[(.slice b2 p.1.length b3), (.slice b4 p.2.length b5)]), (.agg #[(.slice x0q q.1.length y0q), (.slice x1q q.2.length y1q)])]) (gF rfl rfl) (by simp)) (JY _ _)) (nW _ _ _ _ p q (d1).sat ⟨_, _, _, _, rfl, e6, e7⟩ ⟨_, _, _, _, rfl, k0, k1⟩) (fun g0 d2 => ?_)
  simp only [pq]
  by_cases a5 : (fC p.1 q.1) < (0 : Int)
  ·refine eQ ?_
   refine wlK b1 ?_
   refine aJ ?_
   refine aB ?_
   refine dx ?_
   refine cV ((i + j) / 2 + 1) ?_
   refine dy ?_
   simp only [pq]
   refine aH ?_
   exact a9 _ _ _ (by omega) ⟨((i + j) / 2 + 1), j, _, rfl, rfl, rfl, d2, (by have := KD hr hp a5; omega), (by omega), (KD hr hp a5), (by omega)⟩
  ·refine eL ?_
   refine wlK b1 ?_
   refine aF ?_
   refine aB ?_
   refine aC ?_
   refine aH ?_
   exact a9 _ _ _ (by omega) ⟨i, (i + j) / 2, _, rfl, rfl, rfl, d2, (by omega), (by omega), (by omega), (ZT hp a5)⟩
 ·refine eL ?_
  refine wn b0 ?_
  refine aF ?_
  refine cU ?_
  refine hK7 _ _ ?_
  refine aE fun g1 a6 => ?_
  by_cases h0 : i < l.length
  ·have hip2 : aT l q.1 = i := by omega
   obtain ⟨p, hp⟩ : ∃ p, l[i]? = some p := ⟨l[i], List.getElem?_eq_getElem h0⟩
   obtain ⟨d3, d4, b6, a1, a2, a3, a4, d5, d6, d7, d8⟩ := Prs.get hv hp
   by_cases c4 : fC p.1 q.1 = 0
   ·refine aP F 15 [(11, .is (.int .i64 (fC p.1 q.1)))] (by kernel_rfl) (by kernel_rfl) ?_
    simp only [cY]
    iterate 2 refine gm ?_
    simp only [pq]
    refine gm ?_
    refine gv bT (fun _ _ => oK (m := ((i : Nat) : Int)) (n := ((l.length : Nat) : Int)) (b := true) rfl rfl (decide_eq_true (by omega))) ?_
    refine gm ?_
    simp only [pq]
    iterate 3 refine gm ?_
    simp only [pq]
    refine gv (pP d3 (d4 + i * 2)) (fun _ _ => bQ (i := i) (sz := 2) Tryz.underlying47 (bM _) rfl b6 rfl (by omega) rfl) ?_
    refine gv _ (fun _ a7 => aD rfl (cX Tryz.underlying50 rfl (dO) (jF (St.fz (St.tells a0 a7) d5) (St.fz (St.tells a0 a7) d6)))) ?_
    refine gv _ (fun _ a7 => aD rfl (cX Tryz.underlying50 rfl (dO) (St.range (St.tells a0 a7) (i := 0) rfl 0 [(.slice x0q q.1.length y0q), (.slice x1q q.2.length y1q)] (dH 0 rfl)))) ?_
    simp only [pq]
    refine fP rfl rfl (v := (.int .i64 (fC p.1 q.1))) (fun g2 a7 _ => bS (tL (fs := #[]) (cs := #[]) (vs := #[(.agg #[(.slice a1 p.1.length a2), (.slice a3 p.2.length a4)]), (.agg #[(.slice x0q q.1.length y0q), (.slice x1q q.2.length y1q)])]) rfl (DF (fs := #[]) (cs := #[]) (xs := #[(.agg #[(.slice a1 p.1.length a2), (.slice a3 p.2.length a4)]), (.agg #[(.slice x0q q.1.length y0q), (.slice x1q q.2.length y1q)])]) (gF rfl rfl) (by simp)) (JY _ _)) (fB (nW _ _ _ _ p q ((St.tells a0 a7)).sat ⟨_, _, _, _, rfl, d7, d8⟩ ⟨_, _, _, _, rfl, k0, k1⟩))) ?_
    refine gv bT (fun _ _ => dG (m := (fC p.1 q.1)) (n := (0 : Int)) (b := true) rfl rfl (beq_iff_eq.2 (by omega))) ?_
    refine gv bT (fun _ _ => uU (b := true) rfl) ?_
    refine ga ?_
    simp only [pq]
    refine bU ?_
    intro g3 c5 c6
    clear c6
    have e8 := St.tells a0 c5
    simp only [cZ]
    refine dy ?_
    refine wlK a6 ?_
    refine aN ?_
    try simp only [xt]
    refine bR (cH rfl (gD rfl) (gD rfl)) ?_
    ·have e2 := UL hr (by rw [hip2]; exact hp) c4
     exact ⟨by rw [e2, hip2], e8.gr.below⟩
   ·refine aP F 15 [(11, .is (.int .i64 (fC p.1 q.1)))] (by kernel_rfl) (by kernel_rfl) ?_
    simp only [cY]
    iterate 2 refine gm ?_
    simp only [pq]
    refine gm ?_
    refine gv bT (fun _ _ => oK (m := ((i : Nat) : Int)) (n := ((l.length : Nat) : Int)) (b := true) rfl rfl (decide_eq_true (by omega))) ?_
    refine gm ?_
    simp only [pq]
    iterate 3 refine gm ?_
    simp only [pq]
    refine gv (pP d3 (d4 + i * 2)) (fun _ _ => bQ (i := i) (sz := 2) Tryz.underlying47 (bM _) rfl b6 rfl (by omega) rfl) ?_
    refine gv _ (fun _ a8 => aD rfl (cX Tryz.underlying50 rfl (dO) (jF (St.fz (St.tells a0 a8) d5) (St.fz (St.tells a0 a8) d6)))) ?_
    refine gv _ (fun _ a8 => aD rfl (cX Tryz.underlying50 rfl (dO) (St.range (St.tells a0 a8) (i := 0) rfl 0 [(.slice x0q q.1.length y0q), (.slice x1q q.2.length y1q)] (dH 0 rfl)))) ?_
    simp only [pq]
    refine fP rfl rfl (v := (.int .i64 (fC p.1 q.1))) (fun g4 a8 _ => bS (tL (fs := #[]) (cs := #[]) (vs := #[(.agg #[(.slice a1 p.1.length a2), (.slice a3 p.2.length a4)]), (.agg #[(.slice x0q q.1.length y0q), (.slice x1q q.2.length y1q)])]) rfl (DF (fs := #[]) (cs := #[]) (xs := #[(.agg #[(.slice a1 p.1.length a2), (.slice a3 p.2.length a4)]), (.agg #[(.slice x0q q.1.length y0q), (.slice x1q q.2.length y1q)])]) (gF rfl rfl) (by simp)) (JY _ _)) (fB (nW _ _ _ _ p q ((St.tells a0 a8)).sat ⟨_, _, _, _, rfl, d7, d8⟩ ⟨_, _, _, _, rfl, k0, k1⟩))) ?_
    refine gv bF (fun _ _ => dG (m := (fC p.1 q.1)) (n := (0 : Int)) (b := false) rfl rfl (beq_eq_false_iff_ne.2 (by omega))) ?_
    refine gv bF (fun _ _ => uU (b := true) rfl) ?_
    refine ga ?_
    simp only [pq]
    refine bU ?_
    intro g5 c7 c8
    clear c8
    have e9 := St.tells a0 c7
    simp only [cZ]
    refine dy ?_
    refine wlK a6 ?_
    refine aN ?_
    try simp only [xt]
    refine bR (cH rfl (gD rfl) (gD rfl)) ?_
    ·have e1 : aT l q.1 = i := by omega
     have e2 : fL l q.1 = false := by first | exact RK hr (by rw [e1]; assumption) (by assumption) | exact KE hr (by omega)
     exact ⟨by rw [e2, e1], e9.gr.below⟩
  ·refine aP F 15 [] (by kernel_rfl) (by kernel_rfl) ?_
   simp only [cY]
   iterate 2 refine gm ?_
   simp only [pq]
   refine gm ?_
   refine gv bF (fun _ _ => oK (m := ((i : Nat) : Int)) (n := ((l.length : Nat) : Int)) (b := false) rfl rfl (decide_eq_false (by omega))) ?_
   refine gm ?_
   simp only [pq]
   refine cW (bL rfl rfl rfl (c := false) rfl (by decide)) ?_
   simp only [pq]
   refine cW (bL rfl rfl rfl (c := false) rfl (by decide)) ?_
   simp only [pq]
   refine cW (bL rfl rfl rfl (c := false) rfl (by decide)) ?_
   simp only [pq]
   refine cW (bL rfl rfl rfl (c := false) rfl (by decide)) ?_
   simp only [pq]
   refine cW (bL rfl rfl rfl (c := false) rfl (by decide)) ?_
   simp only [pq]
   refine cW (bL rfl rfl rfl (c := false) rfl (by decide)) ?_
   simp only [pq]
   refine cW (bL rfl rfl rfl (c := false) rfl (by decide)) ?_
   simp only [pq]
   refine cW (bL rfl rfl rfl (c := false) rfl (by decide)) ?_
   refine gv bF (fun _ _ => uU (b := false) rfl) ?_
   refine ga ?_
   refine bU ?_
   intro g6 c9 d0
   clear d0
   have f0 := St.tells a0 c9
   simp only [cZ]
   refine dy ?_
   simp only [pq]
   refine wlK a6 ?_
   refine aN ?_
   try simp only [xt]
   refine bR (cH rfl (gD rfl) (gD rfl)) ?_
   ·have e1 : aT l q.1 = i := by omega
    have e2 : fL l q.1 = false := by first | exact RK hr (by rw [e1]; assumption) (by assumption) | exact KE hr (by omega)
    exact ⟨by rw [e2, e1], f0.gr.below⟩
theorem qZ (F : Fz) (w : World) (v u : Value) (l : List Pr) (k : By) (hs : Sat w F) (hv : Prs F v l) (hu : Bs F u k) (hr : iR l) (hl : l.length ≤ 1000000) :
    Calls Tryz.prog 56 #[v, u] w (cR w (.tuple #[.int .i64 (aT l k : Nat), .bool (fL l k)])) := by
 obtain ⟨a, c, rfl, hc1, hc2⟩ := Sl.shape hv
 obtain ⟨a2, c2, rfl, _⟩ := hu.shape
 have S := St.start hs
 go_enter Tryz.func56, Tryz.ntmps56
 refine sk fun K1 hK1 => ?_
 iterate 2 refine dy ?_
 refine wn hK1 ?_
 refine sk fun K2 hK2 => ?_
 iterate 2 refine dx ?_
 refine dr (.agg #[(.slice a2 k.length c2), Zn]) (aL (cT rfl) (by kernel_rfl)) ?_
 simp only [pq]
 refine aK (v := (.tuple #[(nI (aT l k)), (.bool (fL l k))])) S rfl (fn3 (Ho _ _)) (KF _ _ _ _ l (k, []) (S).sat hv ⟨_, _, _, _, rfl, hu, Bs.nil _⟩ hr (by omega)) (fun w3 S4 => ?_)
 refine aC ?_
 refine wn hK2 ?_
 refine aN ?_
 try simp only [xt]
 refine bR (cH rfl (gD rfl) (gD rfl)) ?_
 exact ⟨rfl, S4.gr.below⟩
def Ia (F : Fz) (u : Value) (o : Option By) : Prop := ∃ a c, u = .agg #[.bool o.isSome, .slice a (o.getD []).length c] ∧ Bs F (.slice a (o.getD []).length c) (o.getD [])
def Ib (o : Option By) (e : Int) (F : Fz) (u : Value) : Prop := ∃ x, u = .tuple #[x, .int .i64 e] ∧ Ia F x o
theorem Eu {l : List Pr} (hr : iR l) {k : By} {p : Pr} (h : fL l k = true) (hp : l[aT l k]? = some p) : lZ l k = some p.2 := by
 obtain ⟨hh, rfl⟩ := List.getElem?_eq_some_iff.1 hp
 obtain ⟨_, h2⟩ := (iM hr).1 h
 have := MN hr (List.getElem_mem hh)
 rw [show l[aT l k].1 = k from h2] at this
 exact this
theorem UM {α : Type} {l : List (By × α)} {k : By} (h : ¬ fL l k = true) : lZ l k = none := by
 rw [GU] at h
 cases e : lZ l k with
 | none => rfl
 | some _ => rw [e] at h; exact absurd rfl h
theorem DW (F : Fz) (w : World) (v u : Value) (l : List Pr) (k : By) (hs : Sat w F) (hv : Prs F v l) (hu : Bs F u k) (ok1 : TreeOk 60 l) (hk1 : 1 ≤ k.length) (hk2 : k.length ≤ 16) :
    Calls Tryz.prog 39 #[v, u] w (dE w F (Ib (lZ l k) 0)) := by
 have ok := oS.2 ok1
 have okk := gW hk1 hk2
 obtain ⟨a, c, rfl, hc1, hc2⟩ := Sl.shape hv
 obtain ⟨a2, c2, rfl, _⟩ := hu.shape
 have S := St.start hs
 go_enter Tryz.func39, Tryz.ntmps39
 refine sk fun K1 hK1 => ?_
 refine sA S (lS _) fun n2 w3 S4 => ?_
 refine dy ?_
 refine wn hK1 ?_
 refine aE fun K5 hK5 => ?_
 refine sk fun K6 hK6 => ?_
 refine dx ?_
 simp only [pq]
 refine aK (v := (.int .i64 (jB l))) S4 rfl (fn1 (wM _ _)) (iP _ _ _ l (S4).sat hv) (fun w7 S8 => ?_)
 refine dy ?_
 refine wn hK6 ?_
 refine sk fun K9 hK9 => ?_
 refine dx ?_
 refine dr bF (cE (m := (jB l)) (n := (0 : Int)) (b := false) rfl rfl (bne_eq_false_iff_eq.2 (ok))) ?_
 simp only [pq]
 refine wn hK9 ?_
 refine aF ?_
 refine aI ?_
 refine hK5 _ _ ?_
 refine aE fun d0 a3 => ?_
 refine sk fun d1 a4 => ?_
 refine dx ?_
 refine aK (v := (.int .i64 (cQ k.length))) S8 rfl (fn1 (wO _ _)) (dK (iE _ _ _ k hu)) (fun d2 b4 => ?_)
 refine dy ?_
 refine wn a4 ?_
 refine sk fun d3 a5 => ?_
 refine dx ?_
 refine dr bF (cE (m := (cQ k.length)) (n := (0 : Int)) (b := false) rfl rfl (bne_eq_false_iff_eq.2 (okk))) ?_
 simp only [pq]
 refine wn a5 ?_
 refine aF ?_
 refine aI ?_
 refine a3 _ _ ?_
 refine aE fun d4 a6 => ?_
 refine sk fun d5 a7 => ?_
 iterate 2 refine dx ?_
 refine aK (v := (.tuple #[(nI (aT l k)), (.bool (fL l k))])) b4 rfl (fn2 (DV _ _)) (qZ _ _ _ _ l k (b4).sat hv hu ok1.rise (by have := ok1.len; omega)) (fun d6 a1 => ?_)
 refine aC ?_
 refine wn a7 ?_
 refine sk fun d7 a8 => ?_
 refine dx ?_
 simp only [pq]
 refine wn a8 ?_
 refine wp_cond_split rfl (fun a0 => ?_) (fun a0 => ?_)
 refine sk fun d8 a9 => ?_
 refine aC ?_
 obtain ⟨hp0, _⟩ := (iM ok1.rise).1 a0
 obtain ⟨p, hp⟩ : ∃ p, l[aT l k]? = some p := ⟨l[aT l k], List.getElem?_eq_getElem hp0⟩
 have hpo := ok1.ok p (List.mem_of_getElem? hp)
 have hpl := hpo.2.2
 obtain ⟨b9, c0, b0, c1, c3, c4, c5, d9, c6, e0, c7⟩ := Prs.get hv hp
 refine dr (pP b9 (c0 + (aT l k) * 2)) (bQ (i := (aT l k)) (sz := 2) Tryz.underlying47 (bM _) rfl b0 rfl (hp0) rfl) ?_
 refine df (xT _ _) ?_
 refine dr _ (aD rfl (aQ (bH _) (St.fz a1 c6))) ?_
 simp only [pq]
 refine aR a1 rfl (fn1 (gH _ _)) (dF _ _ _ p.2 (a1).sat c7 (by omega)) ?_
 intro e1 e2 e3 c8 c9 b5
 obtain ⟨b1, b2, rfl, _⟩ := b5.shape
 refine dr (.agg #[bT, (.slice b1 p.2.length b2)]) (aL (eP rfl rfl) (by kernel_rfl)) ?_
 refine sW 0 c8 (gG) fun e4 b6 => ?_
 refine dy ?_
 simp only [pq]
 refine wn a9 ?_
 refine aN ?_
 try simp only [xt]
 refine bR (dL rfl ⟨_, rfl, lR b6 0 Tryz.underlying72 (gG)⟩ (gD rfl)) ?_
 rw [Eu ok1.rise a0 hp]
 exact ⟨_, _, rfl, b6.gr, _, rfl, _, _, rfl, b5⟩
 refine aI ?_
 refine a6 _ _ ?_
 refine sk fun e5 b3 => ?_
 refine dr (.agg #[bF, Zn]) (aL (gZ) (by kernel_rfl)) ?_
 refine sW 0 a1 (gG) fun e6 b7 => ?_
 refine dy ?_
 simp only [pq]
 refine wn b3 ?_
 refine aN ?_
 try simp only [xt]
 refine bR (dL rfl ⟨_, rfl, lR b7 0 Tryz.underlying72 (gG)⟩ (gD rfl)) ?_
 rw [UM (by rw [a0]; simp)]
 exact ⟨_, _, rfl, b7.gr, _, rfl, _, _, rfl, Bs.nil _⟩
theorem rA {W w' : World} {a : Addr} {v : Value} (h : Below W.heap.size W w') (hc : W.cell? a = some v) : w'.cell? a = some v := by
 have hlt : a.block < W.heap.size := by
  rcases Nat.lt_or_ge a.block W.heap.size with h' | h'
  ·exact h'
  ·simp [World.cell?, Array.getElem?_eq_none h'] at hc
 rw [← hc]
 unfold World.cell?
 rw [h.block a.block hlt]
section
variable {α : Type} {k E base : Nat} {R : Fz → List Value → α → Prop} {w : World} {F : Fz} {l : List α}
theorem Own.addr0 {a : Option Addr} {n c : Nat} (h : Own k R E base w F (.slice a n c) l) (hl : 0 < l.length) : ∃ g, a = some ⟨g, 0, none⟩ := by
 obtain ⟨g, cap, e, _⟩ := h.form hl
 injection e with e
 exact ⟨g, e⟩
theorem Own.at {a : Option Addr} {n c : Nat} (h : Own k R E base w F (.slice a n c) l) {i : Nat} {p : α} (hp : l[i]? = some p) : ∃ g cs, a = some ⟨g, 0, none⟩ ∧ cs.length = k ∧ R F cs p ∧ w.rangeAt g (i * k) cs := by
 obtain ⟨hi, rfl⟩ := List.getElem?_eq_some_iff.1 hp
 obtain ⟨el, ⟨e1, e2⟩, h2, h3⟩ := h.ex
 have hll := h2.len
 rcases e2 with ⟨e2, h0⟩ | ⟨g, cap, cur, e2, q0, hg, q1, q2, q3, q4⟩
 omega
 injection e2 with e2
 refine ⟨g, el[i]'(by omega), e2, h3 _ (List.getElem_mem _), h2.get i (by omega) hi, fun j u hu => ?_⟩
 have hj : j < k := by
  have := (List.getElem?_eq_some_iff.1 hu).1
  rwa [h3 _ (List.getElem_mem _)] at this
 have hf := oF h3 i (by omega) j hj
 rw [← q4, List.getElem?_take] at hf
 rw [← hf] at hu
 split at hu
 simp only [World.cell?, hg]; simpa using hu
 cases hu
theorem Own.len {a : Option Addr} {n c : Nat} (h : Own k R E base w F (.slice a n c) l) : n = l.length := by
 obtain ⟨a', c', e, _⟩ := h.shape
 injection e
end
theorem Ix {E base : Nat} {w : World} {F : Fz} {l : List (By × List Pr)} {a : Option Addr} {n c : Nat} (h : Own 2 TnC E base w F (.slice a n c) l) {i : Nat} {p : By × List Pr} (hp : l[i]? = some p) :
    ∃ g, a = some ⟨g, 0, none⟩ ∧ ∃ xa xc ya yc, w.cell? ⟨g, 0 + i * 2, none⟩ = some (.slice xa p.1.length xc) ∧ w.cell? ⟨g, 0 + i * 2 + 1, none⟩ = some (.slice ya p.2.length yc) ∧ Bs F (.slice xa p.1.length xc) p.1 ∧ Prs F (.slice ya p.2.length yc) p.2 := by
 obtain ⟨g, cs, e, _, ⟨x, y, rfl, r1, r2⟩, hr⟩ := h.at hp
 obtain ⟨xa, xc, rfl, _⟩ := r1.shape
 obtain ⟨ya, yc, rfl, _⟩ := Sl.shape r2
 refine ⟨g, e, xa, xc, ya, yc, ?_, ?_, r1, r2⟩
 have := hr 0 _ rfl; rw [Nat.zero_add]; simpa using this
 have := hr 1 _ rfl; rw [Nat.zero_add]; simpa using this
theorem HJ {P : Program} {w0 w : World} {F0 F : Fz} {L : List Blk} {M : List RowP} {α : Type} {k base E : Nat} {R : Fz → List Value → α → Prop} {hR : ∀ F F' x p, Le F F' → R F x p → R F' x p} {l : List α} {ops : Array Oper} {Q : Exit → Act → World → Prop} {a : Act} {rest : List Oper} {d : Option Tmp} {t T : TypeId} {x y : Operand} {pos : String} {after : Array Edge} {guard : Option (Nat × Bool)} {r g cap i j o n : Nat} {u : Value} {p : α} (S : St w0 F0 w F L M)
    (hw : Region.wanted ⟨d, .store T x y, t, pos, after, guard⟩ (yielded ops a.tmps) = true) (hx : a.eval x = .pointer (some ⟨g, o, none⟩)) (ho : o = i * k + j) (hjk : j < k) (hy : a.eval y = u) (hM : M[r]? = some (cN k R hR E base (.slice (some ⟨g, 0, none⟩) n cap) l)) (hil : i < l.length)
    (hi : (P.info? T).map (·.size) = some 1) (h1 : u.oneCell' = true) (hu : u.cells = #[u]) (hp : ∀ cs (q : α), l[i]? = some q → R F cs q → R F (cs.set j u) p) (hb : w0.heap.size ≤ base)
    (h : ∀ w', St w0 F0 w' F L (M.set r (cN k R hR E base (.slice (some ⟨g, 0, none⟩) n cap) (l.set i p))) → WL P ops Q rest (a.put d undef) w') : WL P ops Q (⟨d, .store T x y, t, pos, after, guard⟩ :: rest) a w := by
 obtain ⟨el, ⟨e1, e2⟩, h2, h3⟩ := (S.own hM).ex
 have hll := h2.len
 subst ho
 rcases e2 with ⟨e2, _⟩ | ⟨g', cap', cur, e2, q0, hg, q1, q2, q3, q4⟩
 cases e2
 injection e2 with e2 e2n e2c
 injection e2 with e2
 injection e2 with e2
 subst e2; subst e2n; subst e2c
 have hcl : cur.toList.length = cap * k := by simpa using q3
 have hkl : (i + 1) * k ≤ l.length * k := Nat.mul_le_mul_right k (by omega)
 have hlc : l.length * k ≤ cap * k := Nat.mul_le_mul_right k q1
 rw [Nat.add_mul, Nat.one_mul] at hkl
 have hle : i * k + j + 1 ≤ cur.toList.length := by rw [hcl]; omega
 have ht : w.there g (i * k + j) u.cells.size := by
  intro m hm
  rw [hu] at hm
  simp at hm
  subst hm
  have : i * k + j < cur.size := by simp at hle; omega
  exact ⟨by simp [World.cell?, hg, this], by simp [World.frozen?, hg]⟩
 have hst := IU (P := P) (T := T) (v := u) (by rw [hu]; exact hi) ht (by rw [hu]; simp [h1])
 have hgrown : w.grownBy (w.setCells g (i * k + j) u.cells.toList) (Value.slice (some ⟨g, 0, none⟩) l.length cap).ownBlock := by
  have hb' := lQ (B := 0) (Nat.zero_le g) u.cells.toList (i * k + j) w w (Below.refl 0 w)
  exact ⟨hb'.os, hb'.tape, hb'.output, hb'.size, fun b hb1 hb2 => gL _ _ _ (fun e => hb2 (by rw [e]; rfl))⟩
 have hheap := mT (n := g) (T := E) (fr := (0, 0)) u.cells.toList (i * k + j) w cur.toList (by simpa using hg) (by rw [hu]; simpa using hle)
 have hxl : el[i]'(by omega) ∈ el := List.getElem_mem _
 have hel := h3 _ hxl
 have hown : Own k R E base (w.setCells g (i * k + j) u.cells.toList) F (.slice (some ⟨g, 0, none⟩) l.length cap) (l.set i p) := by
  refine ⟨⟨el.set i ((el[i]'(by omega)).set j u), ⟨?_, .inr ⟨g, cap, _, by rw [List.length_set], q0, hheap, by rw [List.length_set]; exact q1, q2, ?_, ?_⟩⟩, MW h2 (hp _ _ (List.getElem?_eq_getElem hil) (h2.get i (by omega) hil)), fun y hy => ?_⟩, (S.own hM).out⟩
  rw [fR (fun y hy => ?_), List.length_set, List.length_set, hll]
  rcases List.mem_or_eq_of_mem_set hy with hy | rfl
  exact h3 y hy
  rw [List.length_set]; exact hel
  rw [List.size_toArray, cO (by rw [hu]; simpa using hle), hcl]
  rw [List.length_set, AC h3 (by omega) (by rw [List.length_set]; exact hel), ← q4]
  have hei : el[i]'(by omega) = (cur.toList.drop (i * k)).take k := by
   have hf : ∀ m, m < k → (el[i]'(by omega))[m]? = cur.toList[i * k + m]? := fun m hm => by
    have := oF h3 i (by omega) m hm
    rw [← this, ← q4, List.getElem?_take, if_pos (by omega)]
   apply List.ext_getElem?
   intro m
   rcases Nat.lt_or_ge m k with hm | hm
   rw [hf m hm, List.getElem?_take, if_pos hm, List.getElem?_drop]
   rw [List.getElem?_eq_none (by omega), List.getElem?_take, if_neg (by omega)]
  rw [hei, hu]
  unfold cK
  have hcl2 : cap * k ≤ cur.toList.length := by omega
  apply List.ext_getElem?
  intro m
  simp only [List.getElem?_append, List.getElem?_take, List.getElem?_drop, List.length_take, List.length_append, List.getElem?_set, List.length_set, List.length_drop, List.length_singleton]
  grind
  rcases List.mem_or_eq_of_mem_set hy with hy | rfl
  exact h3 y hy
  rw [List.length_set]; exact hel
 refine doS hw (xO hx (by rw [hy]; exact hst)) (h _ (S.grown hM hb hgrown hown (fun g' hg' => .inl hg')))
theorem tY {P : Program} {o : Oper} {a : Act} {W w : World} {F F1 : Fz} {α : Type} {k : Nat} {R : Fz → List Value → α → Prop} {hR : ∀ F F' x p, Le F F' → R F x p → R F' x p} {cs : List Value} {p : α} {E : TypeId} (g : Gr W F w F1) (hp : R F1 cs p) (hk : cs.length = k)
    (hr : (execOp a.eval o).run P w = .ok (.value (.slice (some ⟨w.heap.size, 0, none⟩) 1 1)) (w.alloc (.cells cs.toArray E))) : kI P o a w (kQ (Made W F fun F' u => Sl k R F' u [p]) w) := by
 unfold kI
 rw [hr]
 have g2 := g.new (.cells cs.toArray E)
 have g3 := g2.add (g := w.heap.size) g.below.size
 have hle : Le F1 (addF F1 (w.alloc (.cells cs.toArray E)) w.heap.size) := fun b o hb => uS _ _ _ _ _ hb
 refine ⟨⟨_, g3, gJ (R := R) (l := [p]) (c := cs) (el := [cs]) (fun j v hj => ?_) (by simp) ⟨hR _ _ _ _ hle hp, trivial⟩ (by simpa using hk) (show [p].length ≤ maxLen by simp [maxLen])⟩, (Below.refl _ _).alloc (Nat.le_refl _) _⟩
 unfold cI addF
 rw [g.sat.out (Nat.le_refl _)]
 simp only [if_true, heap_alloc_new]
 simpa using hj
def NewAt (W : World) (cs : List Value) (T : TypeId) (v : Value) (w : World) : Prop := ∃ n, v = .pointer (some ⟨n, 0, none⟩) ∧ W.heap.size ≤ n ∧ w.heap[n]? = some (.cells cs.toArray T (0, 0))
theorem NewAt.stable (W : World) (cs : List Value) (T : TypeId) : ∀ v w w', NewAt W cs T v w → Below w.heap.size w w' → NewAt W cs T v w' := by
 rintro v w w' ⟨n, h1, h2, h3⟩ hb
 exact ⟨n, h1, h2, VJ hb h3⟩
theorem jR {P : Program} {d : Option Tmp} {t T : TypeId} {pos : String} {after : Array Edge} {guard : Option (Nat × Bool)} {a : Act} {w W : World} {z : Value} {cs : List Value} (hz : (zeroValue T).run P w = .ok z w) (hc : z.cells = cs.toArray) (hC : Below W.heap.size W w) : kI P ⟨d, .alloc T, t, pos, after, guard⟩ a w (kQ (NewAt W cs T) w) := by
 unfold kI
 rw [DD hz]
 refine ⟨⟨w.heap.size, rfl, hC.size, ?_⟩, (Below.refl _ _).alloc (Nat.le_refl _) _⟩
 rw [hc]
 exact heap_alloc_new w _
theorem Facts.getR {W : World} {F : Fz} {L : List (Nat × Mark)} {Vs : eT} {w : World} (h : Facts (gK W F L) Vs w) (i : Nat) {v : Value} {R : Value → World → Prop} (hv : Vs i = some v) (hL : gK W F L i = .rel R) : R v w := by
 have := h i v hv
 rw [hL] at this
 exact this
def dropF (F : Fz) (n : Nat) : Fz := fun b => if b = n then none else F b
theorem oT (F : Fz) (n : Nat) : dropF F n n = none := by simp [dropF]
theorem Gr.dropF {W w : World} {F F' : Fz} (g : Gr W F w F') (hs : Sat W F) {n : Nat} (hn : W.heap.size ≤ n) : Gr W F w (dropF F' n) :=
  ⟨g.below, fun b hb => by unfold Proofs.YtilgpdpooildcaaGreatDoor.dropF; rw [if_neg (by omega)]; exact g.old b hb, fun b o hb => by
    unfold Proofs.YtilgpdpooildcaaGreatDoor.dropF at hb
    split at hb
    · cases hb
    · exact g.sat b o hb⟩
theorem Bs.dropF {w : World} {F : Fz} {n : Nat} {cs : List Value} {T : TypeId} (hs : Sat w F) (hb : w.heap[n]? = some (.cells cs.toArray T (0, 0))) (hc : ∀ u ∈ cs, ∀ x, u ≠ bv x) {v : Value} {l : List UInt8} (h : Bs F v l) : Bs (dropF F n) v l := by
 obtain ⟨a, c, h1, h2, h3, h4, h5⟩ := h
 refine ⟨a, c, h1, h2, h3, h4, ?_⟩
 rcases h5 with h5 | ⟨b, o, e, h6⟩
 exact .inl h5
 by_cases hbn : b = n
 cases l with
 | nil => exact .inl rfl
 | cons x l =>
  exfalso
  have h0 := h6 0 (bv x) rfl
  subst hbn
  unfold cI at h0
  split at h0
  rename_i c0 t0 fr0 hF
  have := hs _ _ hF
  rw [hb] at this
  cases this
  have hm : bv x ∈ cs := by
   have : cs[o + 0]? = some (bv x) := by simpa using h0
   exact List.mem_of_getElem? this
  exact hc _ hm x rfl
  cases h0
 refine .inr ⟨b, o, e, fun j u hu => ?_⟩
 have := h6 j u hu
 unfold cI Proofs.YtilgpdpooildcaaGreatDoor.dropF at *
 rw [if_neg hbn]
 exact this
theorem iA {P : Program} {o : Oper} {a : Act} {w : World} {v : Value} {R : Value → World → Prop} (h : (execOp a.eval o).run P w = .ok (.value v) w) (hR : R v w) (hb : Below w.heap.size w w) : kI P o a w (kQ R w) := by
 unfold kI
 rw [h]
 exact ⟨hR, hb⟩
theorem St.addBlk {w0 W w : World} {F0 F F' : Fz} {L : List Blk} {M : List RowP} (S : St w0 F0 W F L M) (g : Gr W F w F') {n : Nat} {cs : List Value} {T : TypeId} (hn : W.heap.size ≤ n) (hF : F' n = none) (hb : w.heap[n]? = some (.cells cs.toArray T (0, 0))) : St w0 F0 w F' (⟨n, cs, T⟩ :: L) M := by
 have S' := S.gives g
 refine ⟨S'.gr, fun x hx => ?_, S'.row, ?_, fun r hr x hx => ?_, S'.rr⟩
 rcases List.mem_cons.1 hx with rfl | hx
 exact ⟨hb, hF, Nat.le_trans S.gr.below.size hn⟩
 exact S'.blk x hx
 refine List.pairwise_cons.2 ⟨fun y hy => ?_, S'.bb⟩
 have := S.blk_lt hy
 simp only
 omega
 rcases List.mem_cons.1 hx with rfl | hx
 intro e
 have := ((S.row r hr).2 _ e).1
 simp at this
 omega
 exact S'.rb r hr x hx
end Go.Proofs.YtilgpdpooildcaaGreatDoor
