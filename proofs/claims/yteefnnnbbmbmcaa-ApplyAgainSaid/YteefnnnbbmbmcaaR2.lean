/- Readers of arguments: slices of structs. No program in sight. -/
import Derived.Test.YteefnnnbbmbmcaaS2
import Derived.Lib.SmallJoins
namespace Go.Proofs.Yteefnnnbbmbmcaa
open Go.ChangeShapes Go.WideShapes Go.ChangeAt Go.RowKit Go.Deep
theorem list2 {α : Type} {cs : List α} (h : cs.length = 2) : ∃ a b, cs = [a, b] := by
  match cs, h with
  | [a, b], _ => exact ⟨a, b, rfl⟩
theorem list4 {α : Type} {cs : List α} (h : cs.length = 4) : ∃ a b c d, cs = [a, b, c, d] := by
  match cs, h with
  | [a, b, c, d], _ => exact ⟨a, b, c, d, rfl⟩
section
variable {H : Type} {enc : TypeId × Value → H} {P : Program} {w : World}
theorem rd_items {t e tb u8 : TypeId} {f0 f1 : Field} {fuel : Nat} {v : Value} {x : DataW H × List MemPlace} (ht : P.underlying t = some (.slice e)) (hs : P.underlying e = some (.struct #[f0, f1])) (hone : oneCellFields P #[f0, f1] = true) (hC : P.cellsOf e = 2)
    (e0 : f0.type = tb) (e1 : f1.type = tb) (hb : P.underlying tb = some (.slice u8)) (hu : P.underlying u8 = some (.int .u8)) (hc : P.cellsOf u8 = 1)
    (h : DataW.trod enc P w 0 (fun _ => true) true fuel t [v] = some x) : ∃ l : List Pr, Prs (whole w) v l :=
  rd_slice (α := Pr) (k := 2) (R := PrC) ht hC (by omega) h (fun n cs y hl hy => by
    obtain ⟨c0, c1, rfl⟩ := list2 hl
    obtain ⟨xs, m, _, _, _, hlen, hf⟩ := DataW.trod_struct hs hy
    obtain ⟨o0, k0⟩ := hone_of hone 0 f0 rfl
    obtain ⟨o1, k1⟩ := hone_of hone 1 f1 rfl
    match xs, hlen with
    | [y0, y1], _ =>
      have h0 := hf 0 f0 rfl
      have h1 := hf 1 f1 rfl
      rw [o0, k0] at h0
      rw [o1, k1] at h1
      simp only [List.drop_zero, List.drop_succ_cons, List.take_succ_cons, List.take_zero] at h0 h1
      rw [e0] at h0
      rw [e1] at h1
      obtain ⟨l0, r0⟩ := rd_bytes_cells hb hu hc h0
      obtain ⟨l1, r1⟩ := rd_bytes_cells hb hu hc h1
      exact ⟨(l0, l1), c0, c1, rfl, r0, r1⟩)
theorem rd_places {t e tb u8 bt : TypeId} {f0 f1 f2 f3 : Field} {fuel : Nat} {v : Value} {x : DataW H × List MemPlace} (ht : P.underlying t = some (.slice e)) (hs : P.underlying e = some (.struct #[f0, f1, f2, f3])) (hone : oneCellFields P #[f0, f1, f2, f3] = true) (hC : P.cellsOf e = 4)
    (e0 : f0.type = tb) (e1 : f1.type = tb) (e2 : f2.type = tb) (e3 : f3.type = bt) (hb : P.underlying tb = some (.slice u8)) (hu : P.underlying u8 = some (.int .u8)) (hc : P.cellsOf u8 = 1) (hbt : P.underlying bt = some .bool)
    (h : DataW.trod enc P w 0 (fun _ => true) true fuel t [v] = some x) : ∃ l : List Pl, Pls (whole w) v l :=
  rd_slice (α := Pl) (k := 4) (R := PlC) ht hC (by omega) h (fun n cs y hl hy => by
    obtain ⟨c0, c1, c2, c3, rfl⟩ := list4 hl
    obtain ⟨xs, m, _, _, _, hlen, hf⟩ := DataW.trod_struct hs hy
    obtain ⟨o0, k0⟩ := hone_of hone 0 f0 rfl
    obtain ⟨o1, k1⟩ := hone_of hone 1 f1 rfl
    obtain ⟨o2, k2⟩ := hone_of hone 2 f2 rfl
    obtain ⟨o3, k3⟩ := hone_of hone 3 f3 rfl
    match xs, hlen with
    | [y0, y1, y2, y3], _ =>
      have h0 := hf 0 f0 rfl
      have h1 := hf 1 f1 rfl
      have h2 := hf 2 f2 rfl
      have h3 := hf 3 f3 rfl
      rw [o0, k0] at h0
      rw [o1, k1] at h1
      rw [o2, k2] at h2
      rw [o3, k3] at h3
      simp only [List.drop_zero, List.drop_succ_cons, List.take_succ_cons, List.take_zero] at h0 h1 h2 h3
      rw [e0] at h0
      rw [e1] at h1
      rw [e2] at h2
      rw [e3] at h3
      obtain ⟨l0, r0⟩ := rd_bytes_cells hb hu hc h0
      obtain ⟨l1, r1⟩ := rd_bytes_cells hb hu hc h1
      obtain ⟨l2, r2⟩ := rd_bytes_cells hb hu hc h2
      obtain ⟨z, ez, _⟩ := DataW.trod_bool hbt h3
      obtain rfl : c3 = _ := by simpa using ez
      exact ⟨⟨l0, l1, l2, z⟩, c0, c1, c2, _, rfl, r0, r1, r2, rfl⟩)
end
end Go.Proofs.Yteefnnnbbmbmcaa
