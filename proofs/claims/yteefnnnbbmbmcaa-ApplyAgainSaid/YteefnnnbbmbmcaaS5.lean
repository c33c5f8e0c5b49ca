/- What the cells of a row are behind an insertion, a deletion. No program in sight. -/
import Derived.Test.YteefnnnbbmbmcaaS4
namespace Go.Proofs.Yteefnnnbbmbmcaa
open Go.RowKit
section
variable {k i n : Nat} {c zs vs : List Value} {el : List (List Value)}
theorem cut_ins (A B K : Nat) (hA : A ≤ B) (hc : B + K ≤ c.length) (hv : vs.length = K) :
    (splice (splice c (A + K) ((c.drop A).take (B - A))) A vs).take (B + K) = (c.take B).take A ++ (vs ++ (c.take B).drop A) := by
  unfold splice
  apply List.ext_getElem?
  intro j
  simp only [List.getElem?_append, List.getElem?_take, List.getElem?_drop, List.length_take, List.length_drop, List.length_append, hv]
  grind
theorem cut_grow (A B K : Nat) (hA : A ≤ B) {x : List Value} (hB : B ≤ c.length) (hx : x.length = B + K - A) {more : List Value} (hv : vs.length = K) :
    (splice (splice (c.take A ++ x ++ more) A vs) (A + K) ((c.drop A).take (B - A))).take (B + K) = (c.take B).take A ++ (vs ++ (c.take B).drop A) := by
  unfold splice
  apply List.ext_getElem?
  intro j
  simp only [List.getElem?_append, List.getElem?_take, List.getElem?_drop, List.length_take, List.length_drop, List.length_append, hv, hx]
  grind
theorem cut_del (A B K : Nat) (hA : A + K ≤ B) (hc : B ≤ c.length) (hz : zs.length = K) :
    (splice (splice c A ((c.drop (A + K)).take (B - (A + K)))) (B - K) zs).take (B - K) = (c.take B).take A ++ (c.take B).drop (A + K) := by
  unfold splice
  apply List.ext_getElem?
  intro j
  simp only [List.getElem?_append, List.getElem?_take, List.getElem?_drop, List.length_take, List.length_drop, List.length_append, hz]
  grind
theorem splice_length {j : Nat} (h : j + vs.length ≤ c.length) : (splice c j vs).length = c.length := splice_len h
variable (h3 : ∀ x ∈ el, x.length = k) (hc : c.take (n * k) = el.flatten)
include h3 hc
theorem cells_ins (hi : i ≤ n) (hl : (n + 1) * k ≤ c.length) (hv : vs.length = k) :
    (splice (splice c ((i + 1) * k) ((c.drop (i * k)).take ((n - i) * k))) (i * k) vs).take ((n + 1) * k) = (el.take i ++ vs :: el.drop i).flatten := by
  have hA : i * k ≤ n * k := Nat.mul_le_mul_right k hi
  have := cut_ins (c := c) (vs := vs) (i * k) (n * k) k hA (by rw [Nat.add_mul, Nat.one_mul] at hl; exact hl) hv
  rw [Nat.add_mul, Nat.one_mul, Nat.sub_mul, Nat.add_mul, Nat.one_mul, this, hc, List.flatten_append, List.flatten_cons, flatten_take h3, flatten_drop h3]
theorem cells_grow (hi : i ≤ n) (hl : n * k ≤ c.length) {x more : List Value} (hx : x.length = (n + 1 - i) * k) (hv : vs.length = k) :
    (splice (splice (c.take (i * k) ++ x ++ more) (i * k) vs) ((i + 1) * k) ((c.drop (i * k)).take ((n - i) * k))).take ((n + 1) * k) = (el.take i ++ vs :: el.drop i).flatten := by
  have hA : i * k ≤ n * k := Nat.mul_le_mul_right k hi
  have := cut_grow (c := c) (vs := vs) (x := x) (more := more) (i * k) (n * k) k hA hl (by rw [hx, Nat.sub_mul, Nat.add_mul, Nat.one_mul]) hv
  rw [Nat.add_mul, Nat.one_mul, Nat.sub_mul, Nat.add_mul, Nat.one_mul, this, hc, List.flatten_append, List.flatten_cons, flatten_take h3, flatten_drop h3]
theorem cells_del (hi : i < n) (hl : n * k ≤ c.length) (hz : zs.length = k) :
    (splice (splice c (i * k) ((c.drop ((i + 1) * k)).take ((n - (i + 1)) * k))) ((n - 1) * k) zs).take ((n - 1) * k) = (el.take i ++ el.drop (i + 1)).flatten := by
  have hA : (i + 1) * k ≤ n * k := Nat.mul_le_mul_right k hi
  rw [Nat.add_mul, Nat.one_mul] at hA
  have := cut_del (c := c) (zs := zs) (i * k) (n * k) k hA hl hz
  rw [Nat.add_mul, Nat.one_mul, Nat.sub_mul, Nat.sub_mul, Nat.add_mul, Nat.one_mul, this, hc, List.flatten_append, flatten_take h3, flatten_drop h3, Nat.add_mul, Nat.one_mul]
end
theorem St.src {w0 w : World} {F0 F : Fz} {L : List Blk} {M : List RowP} (S : St w0 F0 w F L M) {i n : Nat} {c : List Value} {T : TypeId} (hL : L[i]? = some ⟨n, c, T⟩) (j m : Nat) : ∀ q u, ((c.drop j).take m)[q]? = some u → w.cell? ((⟨n, j, none⟩ : Addr).add q) = some u := by
  intro q u hu
  rw [Addr.add_mid]
  rw [List.getElem?_take] at hu
  split at hu
  · rw [List.getElem?_drop] at hu
    exact S.cell hL hu
  · cases hu
theorem St.src0 {w0 w : World} {F0 F : Fz} {L : List Blk} {M : List RowP} (S : St w0 F0 w F L M) {i n : Nat} {c : List Value} {T : TypeId} (hL : L[i]? = some ⟨n, c, T⟩) : ∀ q u, c[q]? = some u → w.cell? ((⟨n, 0, none⟩ : Addr).add q) = some u := by
  intro q u hu
  rw [Addr.add_mid, Nat.zero_add]
  exact S.cell hL hu
theorem St.srcT {w0 w : World} {F0 F : Fz} {L : List Blk} {M : List RowP} (S : St w0 F0 w F L M) {i n : Nat} {c : List Value} {T : TypeId} (hL : L[i]? = some ⟨n, c, T⟩) (m : Nat) : ∀ q u, (c.take m)[q]? = some u → w.cell? ((⟨n, 0, none⟩ : Addr).add q) = some u := by
  intro q u hu
  rw [Addr.add_mid, Nat.zero_add]
  rw [List.getElem?_take] at hu
  split at hu
  · exact S.cell hL hu
  · cases hu
theorem one_mid {α : Type} {R : Fz → List Value → α → Prop} {F : Fz} {k : Nat} {c : List Value} {el : List (List Value)} {l : List α} (hone : ∀ F cs p, R F cs p → ∀ u ∈ cs, u.oneCell' = true) (hall : AllR (R F) el l) (hc : c.take (l.length * k) = el.flatten) (i : Nat) : ∀ u ∈ (c.drop (i * k)).take ((l.length - i) * k), u.oneCell' = true := by
  intro u hu
  have e : (c.drop (i * k)).take ((l.length - i) * k) = el.flatten.drop (i * k) := by
    rw [← hc, List.drop_take, Nat.sub_mul]
  rw [e] at hu
  obtain ⟨y, hy, huy⟩ := List.mem_flatten.1 (List.mem_of_mem_drop hu)
  obtain ⟨j, hj, rfl⟩ := List.mem_iff_getElem.1 hy
  exact hone _ _ _ (hall.get j hj (by rw [← hall.len]; exact hj)) u huy
theorem allR_insert {α : Type} {R : List Value → α → Prop} {xs : List (List Value)} {ps : List α} (h : AllR R xs ps) (i : Nat) {x : List Value} {p : α} (hx : R x p) : AllR R (xs.take i ++ x :: xs.drop i) (ps.take i ++ p :: ps.drop i) := (h.take i).append ⟨hx, h.drop i⟩
theorem allR_delete {α : Type} {R : List Value → α → Prop} {xs : List (List Value)} {ps : List α} (h : AllR R xs ps) (i : Nat) : AllR R (xs.take i ++ xs.drop (i + 1)) (ps.take i ++ ps.drop (i + 1)) := (h.take i).append (h.drop (i + 1))
theorem len_insert {el : List (List Value)} {k : Nat} (h : ∀ x ∈ el, x.length = k) (i : Nat) {x : List Value} (hx : x.length = k) : ∀ y ∈ el.take i ++ x :: el.drop i, y.length = k := by
  intro y hy
  rcases List.mem_append.1 hy with hy | hy
  · exact h y (List.mem_of_mem_take hy)
  · rcases List.mem_cons.1 hy with rfl | hy
    · exact hx
    · exact h y (List.mem_of_mem_drop hy)
theorem len_delete {el : List (List Value)} {k : Nat} (h : ∀ x ∈ el, x.length = k) (i : Nat) : ∀ y ∈ el.take i ++ el.drop (i + 1), y.length = k := by
  intro y hy
  rcases List.mem_append.1 hy with hy | hy
  · exact h y (List.mem_of_mem_take hy)
  · exact h y (List.mem_of_mem_drop hy)
end Go.Proofs.Yteefnnnbbmbmcaa
