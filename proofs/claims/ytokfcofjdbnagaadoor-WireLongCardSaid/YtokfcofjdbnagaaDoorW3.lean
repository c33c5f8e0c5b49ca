/- Walk of the law WireLong -/
import Derived.Test.YtokfcofjdbnagaaDoorW2
namespace Go.Proofs.YtokfcofjdbnagaaDoor
open Go.RowKit
set_option maxRecDepth 100000
set_option linter.unusedVariables false
set_option linter.unusedSimpArgs false
theorem Has.below {w w' : World} (h : Has w) (hb : Below w.heap.size w w') : Has w' := fun i hi => by
  rw [hb.cell (World.block_lt_of_cell? w ⟨0, i, none⟩ (h i hi))]; exact h i hi
theorem reqLens (kind : Int) (n y l x : List UInt8) : ∀ k : Nat, reqKind kind = k → 1 ≤ k ∧ k ≤ 8 ∧
    wireN k (reqName kind n).length (reqKey kind y).length (reqLast kind l).length (reqValue kind x).length = 0 ∧
    wireN k (reqName kind n).length (reqKey kind y).length (reqLast kind l).length 33 = 1 ∧
    (k = 3 → wireN k (reqName kind n).length (reqKey kind y).length (reqLast kind l).length 1 = 4) ∧
    (k ≠ 3 → wireN k (reqName kind n).length (reqKey kind y).length 1 (reqValue kind x).length = 4) := by
  intro k hk
  have b := reqKind_bd kind
  have e1 := nameL_len n
  have e2 := keyL_len y
  have e3 := keyL_len l
  have e4 : (x.take 32).length ≤ 32 := by simp only [List.length_take]; omega
  unfold reqName reqKey reqLast reqValue
  rw [hk]
  rcases (by omega : k = 1 ∨ k = 2 ∨ k = 3 ∨ k = 4 ∨ k = 5 ∨ k = 6 ∨ k = 7 ∨ k = 8) with rfl | rfl | rfl | rfl | rfl | rfl | rfl | rfl
  all_goals
    simp only [reqHas]
    refine ⟨by omega, by omega, ?_, ?_, ?_, ?_⟩
  all_goals
    simp [wireN, hasL, partsN, show Nat.testBit 3 0 = true from rfl, show Nat.testBit 3 1 = true from rfl, show Nat.testBit 3 2 = false from rfl, show Nat.testBit 3 3 = false from rfl, show Nat.testBit 7 0 = true from rfl, show Nat.testBit 7 1 = true from rfl, show Nat.testBit 7 2 = true from rfl, show Nat.testBit 7 3 = false from rfl, show Nat.testBit 11 0 = true from rfl, show Nat.testBit 11 1 = true from rfl, show Nat.testBit 11 2 = false from rfl, show Nat.testBit 11 3 = true from rfl]
    try (repeat' split) <;> omega
theorem wireCheck_len (w : World) (k : Nat) (k1 : 1 ≤ k) (k8 : k ≤ 8) (hh : Has w) (a0 a1 a2 a3 : Option Addr) (n y l v c0 c1 c2 c3 : Nat)
    (bn : n ≤ 9223372036854775807) (by' : y ≤ 9223372036854775807) (bl : l ≤ 9223372036854775807) (bv' : v ≤ 9223372036854775807) (e3 : y ≤ c1) (e4 : c1 ≤ maxLen) (e5 : l ≤ c2) (e6 : c2 ≤ maxLen) :
    Calls Tryd.prog 16 #[.agg #[.int .i64 k, .slice a0 n c0, .slice a1 y c1, .slice a2 l c2, .slice a3 v c3]] w (Tells w (.int .i64 (wireN k n y l v))) := by
  have hg : 0 < w.heap.size := World.block_lt_of_cell? w ⟨0, 0, none⟩ (hh 0 (by decide))
  have hk := hh k (by simp [hasL]; omega)
  unfold wireN
  rcases (by omega : k = 1 ∨ k = 2 ∨ k = 3 ∨ k = 4 ∨ k = 5 ∨ k = 6 ∨ k = 7 ∨ k = 8) with rfl | rfl | rfl | rfl | rfl | rfl | rfl | rfl
  · exact wireCheck_0 w 1 k1 k8 hg hk _ _ _ _ _ _ _ _ _ _ _ _ bn by' bl bv' e3 e4 e5 e6
  · exact wireCheck_3 w 2 k1 k8 hg hk _ _ _ _ _ _ _ _ _ _ _ _ bn by' bl bv' e3 e4 e5 e6
  · exact wireCheck_7 w 3 k1 k8 hg hk _ _ _ _ _ _ _ _ _ _ _ _ bn by' bl bv' e3 e4 e5 e6
  · exact wireCheck_11 w 4 k1 k8 hg hk _ _ _ _ _ _ _ _ _ _ _ _ bn by' bl bv' e3 e4 e5 e6
  · exact wireCheck_3 w 5 k1 k8 hg hk _ _ _ _ _ _ _ _ _ _ _ _ bn by' bl bv' e3 e4 e5 e6
  · exact wireCheck_0 w 6 k1 k8 hg hk _ _ _ _ _ _ _ _ _ _ _ _ bn by' bl bv' e3 e4 e5 e6
  · exact wireCheck_0 w 7 k1 k8 hg hk _ _ _ _ _ _ _ _ _ _ _ _ bn by' bl bv' e3 e4 e5 e6
  · exact wireCheck_3 w 8 k1 k8 hg hk _ _ _ _ _ _ _ _ _ _ _ _ bn by' bl bv' e3 e4 e5 e6
set_option maxHeartbeats 4000000 in
theorem wireLong_walk (w : World) (kind : Int) (a b c d : Value) (n y l x : List UInt8) (which : Int) (hh : Has w) (ha : Bs (whole w) a n) (hb : Bs (whole w) b y) (hc : Bs (whole w) c l) (hd : Bs (whole w) d x)
    (k1 : -9223372036854775808 ≤ kind) (k2 : kind ≤ 9223372036854775807) (m1 : -9223372036854775808 ≤ which) (m2 : which ≤ 9223372036854775807) :
    Calls Tryd.prog 3 #[.agg #[.int .i64 kind, a, b, c, d], .int .i64 which] w fun e w' => e = .returned (.bool true) ∧ Below w.heap.size w w' := by
  obtain ⟨i, hi, hz0, hz1, hz2⟩ := info_parts infoU8
  obtain ⟨K, hK⟩ : ∃ K : Nat, reqKind kind = K := ⟨(reqKind kind).toNat, by have := reqKind_bd kind; omega⟩
  obtain ⟨K1, K8, L0, L1, L2, L3⟩ := reqLens kind n y l x K hK
  have hp : Hid (0 ≤ pick which 3 ∧ pick which 3 < 3) := pick_bd which 3 (by omega)
  go_enter Tryd.func3, Tryd.ntmps3
  go_wp2_with fail
  refine (request_spec (whole w) _ kind a b c d n y l x ((Sat.whole w).alloc _) ha hb hc hd k1 k2).mono ?_; rintro e w1 ⟨v1, F1, rfl, g1, r1⟩
  have hB1 : Below w.heap.size w w1 := ((Below.refl _ _).alloc (Nat.le_refl _) _).trans (g1.below.mono (by simp))
  have hh1 := hh.below hB1
  rw [hK] at r1
  have hs1 := g1.sat
  clear g1 ha hb hc hd hK
  generalize reqName kind n = n' at *
  generalize reqKey kind y = y' at *
  generalize reqLast kind l = l' at *
  generalize reqValue kind x = x' at *
  have L0' := hid L0
  have L1' := hid L1
  have L2' := hid L2
  have L3' := hid L3
  clear L0 L1 L2 L3
  obtain ⟨a', b', c', d', rfl, ha, hb, hc, hd⟩ := r1
  obtain ⟨a0, c0, rfl, e1', e2'⟩ := ha.shape
  obtain ⟨a1, c1, rfl, e3', e4'⟩ := hb.shape
  obtain ⟨a2, c2, rfl, e5', e6'⟩ := hc.shape
  obtain ⟨a3, c3, rfl, e7', e8'⟩ := hd.shape
  have e4'' := e4'
  have e6'' := e6'
  go_wp2_with fail
  refine (wireCheck_spec F1 _ _ K n' y' l' x' K1 K8 (hh1.below ((Below.refl _ _).alloc (Nat.le_refl _) _)) ⟨_, _, _, _, rfl, ha, hb, hc, hd⟩).mono ?_
  rintro e w2 ⟨rfl, hb2⟩
  rw [L0'.out]
  have xr := heap_kept hb2 (heap_new_at w1 (.cells #[.int .i64 K, .slice a0 n'.length c0, .slice a1 y'.length c1, .slice a2 l'.length c2, .slice a3 x'.length c3] 25) (n := w1.heap.size) rfl)
  have hB12 : Below w1.heap.size w1 w2 := ((Below.refl _ _).alloc (Nat.le_refl _) _).trans (hb2.mono (by simp))
  have hB2 : Below w.heap.size w w2 := hB1.trans (hB12.mono hB1.size)
  have hh2 := hh1.below hB12
  have hs2 := hs1.below hB12
  have n1 : F1 w1.heap.size = none := hs1.out (Nat.le_refl _)
  clear hb2 hB12 hh1 hs1
  go_wp2_with fail
  refine (picked_spec _ _ _ m1 m2 (by omega) (by omega)).mono ?_; rintro e w2 ⟨rfl, rfl⟩
  obtain ⟨s0, s1, s2, s3, s4, sf⟩ := box5 xr
  have hsz0 : w1.heap.size < w2.heap.size := (Array.getElem?_eq_some_iff.1 xr).1
  rcases (by have := hp.out; omega : pick which 3 = 0 ∨ pick which 3 = 1 ∨ pick which 3 = 2) with hn | hn | hn
  · rw [hn]
    have hmk : ∀ u : World, (Instr.makeSlice 22 (.int .i64 33) (.int .i64 33)).run Tryd.prog u =
        .ok (.slice (some ⟨u.heap.size, 0, none⟩) 33 33) (u.alloc (.cells (madeCells #[.int .u8 0] 33) 5)) := fun u => by
      have h := run_make (P := Tryd.prog) u 22 5 i (.int .u8 0) Tryd.underlying22 hi hz0 .i64 .i64 33 33 (by omega) (Int.le_refl _) (by rw [hz2]; omega) (by omega)
      simpa [hz1, Value.cells] using h
    go_wp2_with fail
    unfold maxLen at e2' e4' e6' e8'
    have hp0 := hB2.setCell (p := ⟨w1.heap.size, 4, none⟩) hB1.size (.slice (some ⟨w2.heap.size, 0, none⟩) 33 33)
    have hB3 := hp0.alloc hp0.size (.cells (madeCells #[.int .u8 0] 33) 5)
    refine (wireCheck_len _ K K1 K8 (hh.below hB3) _ _ _ _ _ _ _ _ _ _ _ _ (by omega) (by omega) (by omega) (by omega) e3' e4'' e5' e6'').mono ?_; rintro e w4 ⟨rfl, hb4⟩
    rw [L1'.out]
    go_wp2_with fail
    go_ret
    exact ⟨rfl, hB3.trans (hb4.mono hB3.size)⟩
  · rw [hn]
    go_wp2_with fail
    refine (picked_spec _ _ _ m1 m2 (by omega) (by omega)).mono ?_; rintro e w2 ⟨rfl, rfl⟩
    have hp9 : Hid (0 ≤ pick which 9 ∧ pick which 9 < 9) := pick_bd which 9 (by omega)
    have hr9 : Hid (9 ≤ 9 + pick which 9 ∧ 9 + pick which 9 < 9223372036854775808) := by have := hp9.out; unfold Hid; omega
    generalize pick which 9 = p9 at *
    obtain ⟨q1, q2⟩ := hp9.out
    clear hp9 hr9 L0' L1' L2' L3'
    go_wp2_with fail
    have hp0 := hB2.setCell (p := ⟨w1.heap.size, 0, none⟩) hB1.size (.int .i64 (9 + p9))
    refine (wireCheck_kind _ (9 + p9) _ _ _ _ (Or.inr (by omega))).mono ?_; rintro e w4 ⟨rfl, hb4⟩
    go_wp2_with fail
    go_ret
    exact ⟨rfl, hp0.trans (hb4.mono hp0.size)⟩
  · rw [hn]
    by_cases hk3 : K = 3
    · subst hk3
      go_wp2_with fail
      have hp0 := hB2.setCell (p := ⟨w1.heap.size, 4, none⟩) hB1.size (.slice (some ⟨w2.heap.size, 0, none⟩) 1 1)
      have hB3 := hp0.alloc hp0.size (.cells #[.int .u8 1] 5)
      unfold maxLen at e2' e4' e6' e8'
      refine (wireCheck_len _ 3 K1 K8 (hh.below hB3) _ _ _ _ _ _ _ _ _ _ _ _ (by omega) (by omega) (by omega) (by omega) e3' e4'' e5' e6'').mono ?_; rintro e w4 ⟨rfl, hb4⟩
      rw [L2'.out trivial]
      go_wp2_with fail
      go_ret
      exact ⟨rfl, hB3.trans (hb4.mono hB3.size)⟩
    · have hkb : ((K : Int) == 3) = false := by rw [beq_eq_false_iff_ne]; omega
      have L4 := hid (L3'.out hk3)
      clear L2' L3' hk3
      go_wp2_with fail
      have hp0 := hB2.setCell (p := ⟨w1.heap.size, 3, none⟩) hB1.size (.slice (some ⟨w2.heap.size, 0, none⟩) 1 1)
      have hB3 := hp0.alloc hp0.size (.cells #[.int .u8 1] 5)
      unfold maxLen at e2' e4' e6' e8'
      refine (wireCheck_len _ K K1 K8 (hh.below hB3) _ _ _ _ _ _ _ _ _ _ _ _ (by omega) (by omega) (by omega) (by omega) e3' e4'' (by omega) (by unfold maxLen; omega)).mono ?_; rintro e w4 ⟨rfl, hb4⟩
      rw [L4.out]
      go_wp2_with fail
      go_ret
      exact ⟨rfl, hB3.trans (hb4.mono hB3.size)⟩
end Go.Proofs.YtokfcofjdbnagaaDoor
