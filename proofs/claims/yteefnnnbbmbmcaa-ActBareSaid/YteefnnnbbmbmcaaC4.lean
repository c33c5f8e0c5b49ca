/- Walk of the law ActBare -/
import Derived.Test.YteefnnnbbmbmcaaB3
namespace Go.Proofs.Yteefnnnbbmbmcaa
open Go.RowKit
set_option maxRecDepth 100000
theorem actN_ok (k a : Int) (n : Nat) (h : n ≤ 80) (h0 : actKind k ≠ 1 → n = 0) : actN (actKind k) (actSess k a) (actKeep k a) n = 0 := by
  have b := actKind_bd k
  have p := pick_bd a 8 (by omega)
  have q := pick_bd a 1000 (by omega)
  unfold actN actSess actKeep
  by_cases h1 : actKind k = 1
  · have h3 : ¬ actKind k = 3 := by omega
    simp only [if_pos h1, if_neg h3]
    rw [if_neg (by omega), if_neg (by omega), if_neg (by omega), if_neg (by omega)]
  · have := h0 h1
    by_cases h3 : actKind k = 3
    · simp only [if_neg h1, if_pos h3]
      rw [if_neg (by omega), if_neg (by omega), if_neg (by omega), if_neg (by omega)]
    · simp only [if_neg h1, if_neg h3]
      rw [if_neg (by omega), if_neg (by omega), if_neg (by omega), if_neg (by omega)]
theorem actN_sess (k a : Int) (n : Nat) (h : n ≤ 80) (_h0 : actKind k ≠ 1 → n = 0) : (actN (actKind k) 3 (actKeep k a) n == 0) = (actKind k == 1) := by
  have b := actKind_bd k
  have q := pick_bd a 1000 (by omega)
  unfold actN actKeep
  by_cases h1 : actKind k = 1
  · have h3 : ¬ actKind k = 3 := by omega
    simp only [if_neg h3]
    rw [if_neg (by omega), if_neg (by omega), if_neg (by omega), if_neg (by omega), h1]; rfl
  · rw [show (actKind k == 1) = false from by simpa using h1]
    rw [beq_eq_false_iff_ne]
    by_cases h3 : actKind k = 3
    · simp only [if_pos h3]
      rw [if_neg (by omega), if_neg (by omega), if_neg (by omega), if_pos (by omega)]; omega
    · simp only [if_neg h3]
      rw [if_neg (by omega), if_neg (by omega), if_neg (by omega), if_pos (by omega)]; omega
theorem actN_keep (k a : Int) (n : Nat) (h : n ≤ 80) (h0 : actKind k ≠ 1 → n = 0) : (actN (actKind k) (actSess k a) 9 n == 0) = (actKind k == 3) := by
  have b := actKind_bd k
  have p := pick_bd a 8 (by omega)
  unfold actN actSess
  by_cases h1 : actKind k = 1
  · simp only [if_pos h1]
    rw [show (actKind k == 3) = false from by rw [h1]; rfl, beq_eq_false_iff_ne]
    rw [if_neg (by omega), if_neg (by omega), if_neg (by omega), if_pos (by omega)]; omega
  · have := h0 h1
    simp only [if_neg h1]
    by_cases h3 : actKind k = 3
    · rw [if_neg (by omega), if_neg (by omega), if_neg (by omega), if_neg (by omega), h3]; rfl
    · rw [show (actKind k == 3) = false from by simpa using h3, beq_eq_false_iff_ne]
      rw [if_neg (by omega), if_neg (by omega), if_neg (by omega), if_pos (by omega)]; omega
theorem actN_data (k a : Int) : (actN (actKind k) (actSess k a) (actKeep k a) 1 == 0) = (actKind k == 1) := by
  have b := actKind_bd k
  have p := pick_bd a 8 (by omega)
  have q := pick_bd a 1000 (by omega)
  unfold actN actSess actKeep
  by_cases h1 : actKind k = 1
  · have h3 : ¬ actKind k = 3 := by omega
    simp only [if_pos h1, if_neg h3]
    rw [if_neg (by omega), if_neg (by omega), if_neg (by omega), if_neg (by omega), h1]; rfl
  · rw [show (actKind k == 1) = false from by simpa using h1, beq_eq_false_iff_ne]
    by_cases h3 : actKind k = 3
    · simp only [if_neg h1, if_pos h3]
      rw [if_neg (by omega), if_neg (by omega), if_neg (by omega), if_pos (by omega)]; omega
    · simp only [if_neg h1, if_neg h3]
      rw [if_neg (by omega), if_neg (by omega), if_neg (by omega), if_pos (by omega)]; omega
theorem actData_len (k : Int) (l : List UInt8) : (actData k l).length ≤ 80 ∧ (actKind k ≠ 1 → (actData k l).length = 0) := by
  unfold actData
  by_cases h : actKind k = 1
  · simp only [if_pos h]
    exact ⟨by simp only [List.length_take]; omega, fun h' => absurd h h'⟩
  · simp only [if_neg h]
    exact ⟨by simp, fun _ => rfl⟩
set_option maxHeartbeats 2000000 in
theorem actBare_walk (w : World) (kind a : Int) (d : Value) (l : List UInt8) (which : Int) (hd : Bs (whole w) d l) (k1 : -9223372036854775808 ≤ kind) (k2 : kind ≤ 9223372036854775807) (a1 : -9223372036854775808 ≤ a) (a2 : a ≤ 9223372036854775807)
    (m1 : -9223372036854775808 ≤ which) (m2 : which ≤ 9223372036854775807) :
    Calls Try.prog 5 #[.agg #[.int .i64 kind, .int .i64 a, d], .int .i64 which] w fun e w' => e = .returned (.bool true) ∧ Below w.heap.size w w' := by
  obtain ⟨dl1, dl2⟩ := actData_len kind l
  have N0 := hid (actN_ok kind a _ dl1 dl2)
  have N1 := hid (actN_sess kind a _ dl1 dl2)
  have N2 := hid (actN_keep kind a _ dl1 dl2)
  have N3 := hid (actN_data kind a)
  have hp : Hid (0 ≤ pick which 3 ∧ pick which 3 < 3) := pick_bd which 3 (by omega)
  go_enter Try.func5, Try.ntmps5
  go_wp2_with fail
  refine (act_spec (whole w) _ kind a d l ((Sat.whole w).alloc _) hd k1 k2 a1 a2).mono ?_; rintro e w1 ⟨v1, F1, rfl, g1, dv, rfl, r1⟩
  obtain ⟨b1, b2⟩ := actKind_bd kind
  have hB1 : Below w.heap.size w w1 := ((Below.refl _ _).alloc (Nat.le_refl _) _).trans (g1.below.mono (by simp))
  clear g1 hd
  generalize actKind kind = kd at *
  generalize actSess kind a = ss at *
  generalize actKeep kind a = kp at *
  generalize actData kind l = dt at *
  obtain ⟨da, dc, rfl, dc1, dc2⟩ := r1.shape
  unfold maxLen at dc2
  go_wp2_with fail
  refine (actCheck_spec _ _ _ _ _ _ _ (by omega)).mono ?_
  rintro e w2 ⟨rfl, hb2⟩
  rw [N0.out]
  have xa := heap_kept hb2 (heap_new_past _ (.cells #[.int .i64 kd, .int .i64 ss, .int .i64 kp, .slice da dt.length dc] 31) (heap_new_at w1 (.cells #[.int .i64 kd, .int .i64 ss, .int .i64 kp, .slice da dt.length dc] 31) (n := w1.heap.size) rfl))
  have xb := heap_kept hb2 (heap_new_at (w1.alloc (.cells #[.int .i64 kd, .int .i64 ss, .int .i64 kp, .slice da dt.length dc] 31)) (.cells #[.int .i64 kd, .int .i64 ss, .int .i64 kp, .slice da dt.length dc] 31) (n := w1.heap.size + 1) (by simp))
  have hB2 : Below w.heap.size w w2 := ((hB1.alloc hB1.size _).alloc (by have := hB1.size; simp; omega) _).trans (hb2.mono (by have := hB1.size; simp; omega))
  clear hb2
  go_wp2_with fail
  refine (picked_spec _ _ _ m1 m2 (by omega) (by omega)).mono ?_; rintro e w2 ⟨rfl, rfl⟩
  rcases (by have := hp.out; omega : pick which 3 = 0 ∨ pick which 3 = 1 ∨ pick which 3 = 2) with hn | hn | hn
  · rw [hn]
    have xb' := heap_set_at xb 1 (.int .i64 3)
    have xa' := heap_set_past xa (a := ⟨w1.heap.size + 1, 1, none⟩) (by simp) (.int .i64 3)
    have hB3 : Below w.heap.size w (w2.setCell ⟨w1.heap.size + 1, 1, none⟩ (.int .i64 3)) := hB2.setCell (by have := hB1.size; simp; omega) _
    have hsz1 : w1.heap.size < (w2.setCell ⟨w1.heap.size + 1, 1, none⟩ (.int .i64 3)).heap.size := (Array.getElem?_eq_some_iff.1 xa').1
    have hsz2 : w1.heap.size + 1 < (w2.setCell ⟨w1.heap.size + 1, 1, none⟩ (.int .i64 3)).heap.size := (Array.getElem?_eq_some_iff.1 xb').1
    obtain ⟨s0, s1, s2, s3, sf⟩ := box4 xb
    have hsz0 : w1.heap.size + 1 < w2.heap.size := (Array.getElem?_eq_some_iff.1 xb).1
    go_wp2_with fail
    clear s0 s1 s2 s3 sf hsz0
    generalize (w2.setCell ⟨w1.heap.size + 1, 1, none⟩ (.int .i64 3)) = W at *
    clear xa xb hB2
    have d0 : ∀ w', Below W.heap.size W w' → w'.cell? ⟨w1.heap.size, 0, none⟩ = some (.int .i64 kd) := fun w' h => (box4 (heap_kept h xa')).1
    have e0 : ∀ w', Below W.heap.size W w' → w'.cell? ⟨w1.heap.size + 1, 0, none⟩ = some (.int .i64 kd) := fun w' h => (box4 (heap_kept h xb')).1
    have e1 : ∀ w', Below W.heap.size W w' → w'.cell? ⟨w1.heap.size + 1, 1, none⟩ = some (.int .i64 3) := fun w' h => (box4 (heap_kept h xb')).2.1
    have e2 : ∀ w', Below W.heap.size W w' → w'.cell? ⟨w1.heap.size + 1, 2, none⟩ = some (.int .i64 kp) := fun w' h => (box4 (heap_kept h xb')).2.2.1
    have e3 : ∀ w', Below W.heap.size W w' → w'.cell? ⟨w1.heap.size + 1, 3, none⟩ = some (.slice da dt.length dc) := fun w' h => (box4 (heap_kept h xb')).2.2.2.1
    clear xa' xb' hsz1 hsz2
    refine wp_region_made (whole W) 7 [(1, .is (.int .i64 (actN kd 3 kp dt.length)))] (by kernel_rfl) (by kernel_rfl) ?_
    simp only [List.take_succ_cons, List.take_zero]
    (refine wpG_pure rfl rfl ?_ (fun w' hC => ?_) ?_; rotate_left 1; focus (unfold PureAt; go_simp; rfl))
    simp only [Act.put, List.setIfInBounds_toArray, List.set_cons_succ, List.set_cons_zero]
    (refine wpG_const rfl rfl (fun w' hC hF => ?_) ?_; focus (unfold Does; go_simp; exact call_tells (actCheck_spec _ _ _ _ _ _ _ (by omega))))
    simp only [Act.put, List.setIfInBounds_toArray, List.set_cons_succ, List.set_cons_zero]
    iterate 5
      (refine wpG_pure rfl rfl ?_ (fun w' hC => ?_) ?_; rotate_left 1; focus (unfold PureAt; go_simp; rfl))
      simp only [Act.put, List.setIfInBounds_toArray, List.set_cons_succ, List.set_cons_zero]
    refine wpG_nil ?_
    intro w4 hC _
    simp only [List.drop_succ_cons, List.drop_zero]
    go_wp2_with fail
    go_ret
    refine ⟨?_, hB3.trans (hC.mono hB3.size)⟩
    show Ending.returned (.bool (_ == _)) = _
    rw [N1.out]
    simp
  · rw [hn]
    have xb' := heap_set_at xb 2 (.int .i64 9)
    have xa' := heap_set_past xa (a := ⟨w1.heap.size + 1, 2, none⟩) (by simp) (.int .i64 9)
    have hB3 : Below w.heap.size w (w2.setCell ⟨w1.heap.size + 1, 2, none⟩ (.int .i64 9)) := hB2.setCell (by have := hB1.size; simp; omega) _
    have hsz1 : w1.heap.size < (w2.setCell ⟨w1.heap.size + 1, 2, none⟩ (.int .i64 9)).heap.size := (Array.getElem?_eq_some_iff.1 xa').1
    have hsz2 : w1.heap.size + 1 < (w2.setCell ⟨w1.heap.size + 1, 2, none⟩ (.int .i64 9)).heap.size := (Array.getElem?_eq_some_iff.1 xb').1
    obtain ⟨s0, s1, s2, s3, sf⟩ := box4 xb
    have hsz0 : w1.heap.size + 1 < w2.heap.size := (Array.getElem?_eq_some_iff.1 xb).1
    go_wp2_with fail
    clear s0 s1 s2 s3 sf hsz0
    generalize (w2.setCell ⟨w1.heap.size + 1, 2, none⟩ (.int .i64 9)) = W at *
    clear xa xb hB2
    have d0 : ∀ w', Below W.heap.size W w' → w'.cell? ⟨w1.heap.size, 0, none⟩ = some (.int .i64 kd) := fun w' h => (box4 (heap_kept h xa')).1
    have e0 : ∀ w', Below W.heap.size W w' → w'.cell? ⟨w1.heap.size + 1, 0, none⟩ = some (.int .i64 kd) := fun w' h => (box4 (heap_kept h xb')).1
    have e1 : ∀ w', Below W.heap.size W w' → w'.cell? ⟨w1.heap.size + 1, 1, none⟩ = some (.int .i64 ss) := fun w' h => (box4 (heap_kept h xb')).2.1
    have e2 : ∀ w', Below W.heap.size W w' → w'.cell? ⟨w1.heap.size + 1, 2, none⟩ = some (.int .i64 9) := fun w' h => (box4 (heap_kept h xb')).2.2.1
    have e3 : ∀ w', Below W.heap.size W w' → w'.cell? ⟨w1.heap.size + 1, 3, none⟩ = some (.slice da dt.length dc) := fun w' h => (box4 (heap_kept h xb')).2.2.2.1
    clear xa' xb' hsz1 hsz2
    refine wp_region_made (whole W) 7 [(1, .is (.int .i64 (actN kd ss 9 dt.length)))] (by kernel_rfl) (by kernel_rfl) ?_
    simp only [List.take_succ_cons, List.take_zero]
    (refine wpG_pure rfl rfl ?_ (fun w' hC => ?_) ?_; rotate_left 1; focus (unfold PureAt; go_simp; rfl))
    simp only [Act.put, List.setIfInBounds_toArray, List.set_cons_succ, List.set_cons_zero]
    (refine wpG_const rfl rfl (fun w' hC hF => ?_) ?_; focus (unfold Does; go_simp; exact call_tells (actCheck_spec _ _ _ _ _ _ _ (by omega))))
    simp only [Act.put, List.setIfInBounds_toArray, List.set_cons_succ, List.set_cons_zero]
    iterate 5
      (refine wpG_pure rfl rfl ?_ (fun w' hC => ?_) ?_; rotate_left 1; focus (unfold PureAt; go_simp; rfl))
      simp only [Act.put, List.setIfInBounds_toArray, List.set_cons_succ, List.set_cons_zero]
    refine wpG_nil ?_
    intro w4 hC _
    simp only [List.drop_succ_cons, List.drop_zero]
    go_wp2_with fail
    go_ret
    refine ⟨?_, hB3.trans (hC.mono hB3.size)⟩
    show Ending.returned (.bool (_ == _)) = _
    rw [N2.out]
    simp
  · rw [hn]
    have xb' := heap_new_past (w2.setCell ⟨w1.heap.size + 1, 3, none⟩ (.slice (some ⟨w2.heap.size, 0, none⟩) 1 1)) (.cells #[.int .u8 5] 5) (heap_set_at xb 3 (.slice (some ⟨w2.heap.size, 0, none⟩) 1 1))
    have xa' := heap_new_past (w2.setCell ⟨w1.heap.size + 1, 3, none⟩ (.slice (some ⟨w2.heap.size, 0, none⟩) 1 1)) (.cells #[.int .u8 5] 5) (heap_set_past xa (a := ⟨w1.heap.size + 1, 3, none⟩) (by simp) (.slice (some ⟨w2.heap.size, 0, none⟩) 1 1))
    have hB3 : Below w.heap.size w ((w2.setCell ⟨w1.heap.size + 1, 3, none⟩ (.slice (some ⟨w2.heap.size, 0, none⟩) 1 1)).alloc (.cells #[.int .u8 5] 5)) := (hB2.setCell (p := ⟨w1.heap.size + 1, 3, none⟩) (by have := hB1.size; simp; omega) (.slice (some ⟨w2.heap.size, 0, none⟩) 1 1)).alloc (hB2.setCell (p := ⟨w1.heap.size + 1, 3, none⟩) (by have := hB1.size; simp; omega) (.slice (some ⟨w2.heap.size, 0, none⟩) 1 1)).size _
    have hsz1 : w1.heap.size < ((w2.setCell ⟨w1.heap.size + 1, 3, none⟩ (.slice (some ⟨w2.heap.size, 0, none⟩) 1 1)).alloc (.cells #[.int .u8 5] 5)).heap.size := (Array.getElem?_eq_some_iff.1 xa').1
    have hsz2 : w1.heap.size + 1 < ((w2.setCell ⟨w1.heap.size + 1, 3, none⟩ (.slice (some ⟨w2.heap.size, 0, none⟩) 1 1)).alloc (.cells #[.int .u8 5] 5)).heap.size := (Array.getElem?_eq_some_iff.1 xb').1
    obtain ⟨s0, s1, s2, s3, sf⟩ := box4 xb
    have hsz0 : w1.heap.size + 1 < w2.heap.size := (Array.getElem?_eq_some_iff.1 xb).1
    go_wp2_with fail
    clear s0 s1 s2 s3 sf hsz0
    generalize ((w2.setCell ⟨w1.heap.size + 1, 3, none⟩ (.slice (some ⟨w2.heap.size, 0, none⟩) 1 1)).alloc (.cells #[.int .u8 5] 5)) = W at *
    clear xa xb hB2
    have d0 : ∀ w', Below W.heap.size W w' → w'.cell? ⟨w1.heap.size, 0, none⟩ = some (.int .i64 kd) := fun w' h => (box4 (heap_kept h xa')).1
    have e0 : ∀ w', Below W.heap.size W w' → w'.cell? ⟨w1.heap.size + 1, 0, none⟩ = some (.int .i64 kd) := fun w' h => (box4 (heap_kept h xb')).1
    have e1 : ∀ w', Below W.heap.size W w' → w'.cell? ⟨w1.heap.size + 1, 1, none⟩ = some (.int .i64 ss) := fun w' h => (box4 (heap_kept h xb')).2.1
    have e2 : ∀ w', Below W.heap.size W w' → w'.cell? ⟨w1.heap.size + 1, 2, none⟩ = some (.int .i64 kp) := fun w' h => (box4 (heap_kept h xb')).2.2.1
    have e3 : ∀ w', Below W.heap.size W w' → w'.cell? ⟨w1.heap.size + 1, 3, none⟩ = some (.slice (some ⟨w2.heap.size, 0, none⟩) 1 1) := fun w' h => (box4 (heap_kept h xb')).2.2.2.1
    clear xa' xb' hsz1 hsz2
    refine wp_region_made (whole W) 7 [(1, .is (.int .i64 (actN kd ss kp 1)))] (by kernel_rfl) (by kernel_rfl) ?_
    simp only [List.take_succ_cons, List.take_zero]
    (refine wpG_pure rfl rfl ?_ (fun w' hC => ?_) ?_; rotate_left 1; focus (unfold PureAt; go_simp; rfl))
    simp only [Act.put, List.setIfInBounds_toArray, List.set_cons_succ, List.set_cons_zero]
    (refine wpG_const rfl rfl (fun w' hC hF => ?_) ?_; focus (unfold Does; go_simp; exact call_tells (actCheck_spec _ _ _ _ _ _ _ (by omega))))
    simp only [Act.put, List.setIfInBounds_toArray, List.set_cons_succ, List.set_cons_zero]
    iterate 5
      (refine wpG_pure rfl rfl ?_ (fun w' hC => ?_) ?_; rotate_left 1; focus (unfold PureAt; go_simp; rfl))
      simp only [Act.put, List.setIfInBounds_toArray, List.set_cons_succ, List.set_cons_zero]
    refine wpG_nil ?_
    intro w4 hC _
    simp only [List.drop_succ_cons, List.drop_zero]
    go_wp2_with fail
    go_ret
    refine ⟨?_, hB3.trans (hC.mono hB3.size)⟩
    show Ending.returned (.bool (_ == _)) = _
    rw [N3.out]
    simp
end Go.Proofs.Yteefnnnbbmbmcaa
