/- Walks of the laws PartFirst, PartOrder, PartThree, BitsTell -/
import Derived.Test.YteefnnnbbmbmcaaM1
namespace Go.Proofs.Yteefnnnbbmbmcaa
open Go.RowKit
set_option maxRecDepth 100000

set_option maxHeartbeats 1000000 in
theorem partOrder_walk (w : World) (v : Value) (l : List UInt8) (hv : Bs (whole w) v l) (u : Value) (m : List UInt8) (hu : Bs (whole w) u m) :
    Calls Try.prog 9 #[v, u] w fun e w' => e = .returned (.bool true) ∧ Below w.heap.size w w' := by
  obtain ⟨p1, p2⟩ := keyL_len l
  obtain ⟨q1, q2⟩ := keyL_len m
  go_enter Try.func9, Try.ntmps9
  go_wp2_with fail
  refine (key_spec _ _ _ l (Sat.whole w) hv).mono ?_; rintro e w1 ⟨v1, F1, rfl, g1, r1⟩
  go_wp2_with fail
  refine (key_spec _ _ _ m g1.sat (hu.mono (g1.le (Sat.whole w)))).mono ?_; rintro e w2 ⟨v2, F2, rfl, g2, r2⟩
  have r1' := r1.mono (g2.le g1.sat)
  have hb : Below w.heap.size w w2 := (g1.trans g2).below
  have hs2 := g2.sat
  clear r1 g1 g2 hv hu
  generalize keyL l = a at *
  generalize keyL m = b at *
  go_wp2_with fail
  refine (part_spec _ _ _ _ a b hs2 r1' r2 p1 p2 q1 q2).mono ?_; rintro e w' ⟨rfl, rfl⟩
  rcases partL_spec a b with ⟨h, _⟩ | ⟨n, n1, n2, n3, n4⟩
  · have he := partL_eq p2 q2 h
    subst he
    rw [h]
    go_wp2_with (go_at_call 46; refine (same_spec _ _ _ _ a a hs2 r1' r2).mono ?_; rintro e w' ⟨rfl, rfl⟩)
    go_ret
    exact ⟨by simp, hb⟩
  · rw [n2]
    have hl := partL_less n2
    have HL := hid hl
    clear hl n2 n3 n4
    have e1 := run_string (P := Try.prog) (src := 27) (dst := 9) Try.underlying27 Try.underlying5 Try.underlying9 hs2 r1'
    have e2 := run_string (P := Try.prog) (src := 27) (dst := 9) Try.underlying27 Try.underlying5 Try.underlying9 hs2 r2
    go_wp2_with (go_at_call 45; refine (bitE_spec _ _ _ b _ hs2 r2 q1 q2 (by omega) (by omega)).mono ?_; rintro e w' ⟨rfl, rfl⟩)
    go_ret
    refine ⟨?_, hb⟩
    show Ending.returned (.bool (bitL b n == Op.bytesLess a b)) = _
    rw [HL.out]; simp

set_option maxHeartbeats 1000000 in
theorem partFirst_walk (w : World) (v : Value) (l : List UInt8) (hv : Bs (whole w) v l) (u : Value) (m : List UInt8) (hu : Bs (whole w) u m) :
    Calls Try.prog 8 #[v, u] w fun e w' => e = .returned (.bool true) ∧ Below w.heap.size w w' := by
  obtain ⟨p1, p2⟩ := keyL_len l
  obtain ⟨q1, q2⟩ := keyL_len m
  go_enter Try.func8, Try.ntmps8
  go_wp2_with fail
  refine (key_spec _ _ _ l (Sat.whole w) hv).mono ?_; rintro e w1 ⟨v1, F1, rfl, g1, r1⟩
  go_wp2_with fail
  refine (key_spec _ _ _ m g1.sat (hu.mono (g1.le (Sat.whole w)))).mono ?_; rintro e w2 ⟨v2, F2, rfl, g2, r2⟩
  have r1' := r1.mono (g2.le g1.sat)
  have hb : Below w.heap.size w w2 := (g1.trans g2).below
  have hs2 := g2.sat
  clear r1 g1 g2 hv hu
  generalize keyL l = a at *
  generalize keyL m = b at *
  go_wp2_with fail
  refine (part_spec _ _ _ _ a b hs2 r1' r2 p1 p2 q1 q2).mono ?_; rintro e w' ⟨rfl, rfl⟩
  go_wp2_with fail
  refine (part_spec _ _ _ _ b a hs2 r2 r1' q1 q2 p1 p2).mono ?_; rintro e w' ⟨rfl, rfl⟩
  rw [partL_comm b a]
  rcases partL_spec a b with ⟨h, _⟩ | ⟨n, n1, n2, n3, n4⟩
  · have he := partL_eq p2 q2 h
    subst he
    rw [h]
    go_wp2_with (go_at_call 46; refine (same_spec _ _ _ _ a a hs2 r1' r2).mono ?_; rintro e w' ⟨rfl, rfl⟩)
    go_loop [11] (fun t => t = .int .i64 0) (fun _ => 0)
    case atStart => rfl
    case round =>
      obtain rfl := hrel
      go_wp2_with fail
      go_ret
      exact ⟨rfl, hb⟩
  · have hne : (a == b) = false := by
      rw [beq_eq_false_iff_ne]; rintro rfl; exact n3 rfl
    rw [n2]
    have N3 := hid n3
    have N4 := hid n4
    clear n2 n3 n4
    go_wp2_with (first | (go_at_call 46; refine (same_spec _ _ _ _ a b hs2 r1' r2).mono ?_; rintro e w' ⟨rfl, rfl⟩))
    go_loop [11] (fun t => ∃ k : Nat, k ≤ n ∧ t = .int .i64 k) (fun t => n - (intOf t).toNat)
    case atStart => exact ⟨0, by omega, rfl⟩
    case round =>
      obtain ⟨k, hk, rfl⟩ := hrel
      by_cases hlt : k < n
      · have he : (bitL a k == bitL b k) = true := by rw [N4.out k hlt]; simp
        go_wp2_with fail
        refine (bitE_spec _ _ _ a _ hs2 r1' p1 p2 (by omega) (by omega)).mono ?_; rintro e w' ⟨rfl, rfl⟩
        go_wp2_with fail
        refine (bitE_spec _ _ _ b _ hs2 r2 q1 q2 (by omega) (by omega)).mono ?_; rintro e w' ⟨rfl, rfl⟩
        go_wp2_with fail
        exact ⟨⟨k + 1, by omega, by go_num⟩, by simp [intOf]; omega⟩
      · obtain rfl : k = n := by omega
        go_wp2_with fail
        refine (bitE_spec _ _ _ a _ hs2 r1' p1 p2 (by omega) (by omega)).mono ?_; rintro e w' ⟨rfl, rfl⟩
        go_wp2_with fail
        refine (bitE_spec _ _ _ b _ hs2 r2 q1 q2 (by omega) (by omega)).mono ?_; rintro e w' ⟨rfl, rfl⟩
        go_wp2_with fail
        go_ret
        refine ⟨?_, hb⟩
        show Ending.returned (.bool (bitL a k != bitL b k)) = _
        rw [bne_iff_ne.2 N3.out]

set_option maxHeartbeats 1000000 in
theorem partThree_walk (w : World) (v : Value) (l : List UInt8) (hv : Bs (whole w) v l) (u : Value) (m : List UInt8) (hu : Bs (whole w) u m) (x : Value) (n : List UInt8) (hx : Bs (whole w) x n) :
    Calls Try.prog 7 #[v, u, x] w fun e w' => e = .returned (.bool true) ∧ Below w.heap.size w w' := by
  obtain ⟨p1, p2⟩ := keyL_len l
  obtain ⟨q1, q2⟩ := keyL_len m
  obtain ⟨s1, s2⟩ := keyL_len n
  go_enter Try.func7, Try.ntmps7
  go_wp2_with fail
  refine (key_spec _ _ _ l (Sat.whole w) hv).mono ?_; rintro e w1 ⟨v1, F1, rfl, g1, r1⟩
  go_wp2_with fail
  refine (key_spec _ _ _ m g1.sat (hu.mono (g1.le (Sat.whole w)))).mono ?_; rintro e w2 ⟨v2, F2, rfl, g2, r2⟩
  have g12 := g1.trans g2
  go_wp2_with fail
  refine (key_spec _ _ _ n g2.sat (hx.mono (g12.le (Sat.whole w)))).mono ?_; rintro e w3 ⟨v3, F3, rfl, g3, r3⟩
  have r1' := (r1.mono (g2.le g1.sat)).mono (g3.le g2.sat)
  have r2' := r2.mono (g3.le g2.sat)
  have hb : Below w.heap.size w w3 := (g12.trans g3).below
  have hs3 := g3.sat
  clear r1 r2 g1 g2 g12 g3 hv hu hx
  generalize keyL l = a at *
  generalize keyL m = b at *
  generalize keyL n = c at *
  go_wp2_with fail
  refine (part_spec _ _ _ _ a b hs3 r1' r2' p1 p2 q1 q2).mono ?_; rintro e w' ⟨rfl, rfl⟩
  go_wp2_with fail
  refine (part_spec _ _ _ _ b c hs3 r2' r3 q1 q2 s1 s2).mono ?_; rintro e w' ⟨rfl, rfl⟩
  go_wp2_with fail
  refine (part_spec _ _ _ _ a c hs3 r1' r3 p1 p2 s1 s2).mono ?_; rintro e w' ⟨rfl, rfl⟩
  go_wp2_with fail
  obtain ⟨Fa, ga, ra⟩ := Gr.row hs3 ((Below.refl w'.heap.size w').alloc (Nat.le_refl _) _) (World.ownsRow_lit (base := w'.heap.size) (e := 5) (size := 1) w' #[.int .u8 0] 1 (Nat.le_refl _) (by unfold maxLen; omega) rfl)
  obtain ⟨Fb, gb, rb⟩ := Gr.row ga.sat ((Below.refl _ _).alloc (Nat.le_refl _) _) (World.ownsRow_lit (base := (w'.alloc (.cells #[.int .u8 0] 5)).heap.size) (e := 5) (size := 1) (w'.alloc (.cells #[.int .u8 0] 5)) #[.int .u8 1] 1 (Nat.le_refl _) (by unfold maxLen; omega) rfl)
  have hb2 := hb.trans ((ga.trans gb).below.mono hb.size)
  have hl := (ga.trans gb).le hs3
  have hs4 := gb.sat
  have ra' := ra.mono (gb.le ga.sat)
  have hpp : partL [0] [1] = 8 := by decide +kernel
  have hsz : w'.heap.size + 1 = (w'.alloc (.cells #[.int .u8 0] 5)).heap.size := by simp
  rw [hsz]
  refine (part_spec Fb _ _ _ [0] [1] hs4 ra' rb (by decide) (by decide) (by decide) (by decide)).mono ?_; rintro e w5 ⟨rfl, rfl⟩
  rw [hpp]
  have r1 := r1'.mono hl
  have r2 := r2'.mono hl
  have r3' := r3.mono hl
  clear hpp hsz rb ra ra' ga gb hl r1' r2' r3 hs3 hb
  have hp := partL_three a b c
  have x1 : decide (partL a b < 0) = (a == b) := by rw [Bool.eq_iff_iff]; simp [partL_neg_iff p2 q2]
  have y1 : decide (partL b c < 0) = (b == c) := by rw [Bool.eq_iff_iff]; simp [partL_neg_iff q2 s2]
  have x2 := partL_ge a b
  have y2 := partL_ge b c
  have z2 := partL_ge a c
  have hxy : partL a b < 0 → partL b c = partL a c := fun h => by rw [partL_eq p2 q2 (by omega)]
  have hyz : partL a b < 0 ∨ partL b c < 0 ∨ partL a c < 0 → 0 ≤ partL a b ∨ partL b c = partL a c := by
    intro _
    by_cases h : partL a b < 0
    · exact .inr (hxy h)
    · exact .inl (by omega)
  generalize partL a b = x at *
  generalize partL b c = y at *
  generalize partL a c = z at *
  have HP := hid hp
  have X1 := hid x1
  have Y1 := hid y1
  have HYZ := hid hyz
  clear hp x1 y1 hxy hyz
  go_wp2_with fail
  refine (same_spec _ _ _ _ a b hs4 r1 r2).mono ?_; rintro e w6 ⟨rfl, rfl⟩
  rw [← X1.out]
  go_wp2_with fail
  refine (same_spec _ _ _ _ b c hs4 r2 r3').mono ?_; rintro e w6 ⟨rfl, rfl⟩
  rw [← Y1.out]
  go_wp2_with fail
  all_goals
    have h1 := HP.out
    have h2 := HYZ.out
    go_ret
    refine ⟨?_, hb2⟩
    refine congrArg (fun t => Ending.returned (.bool t)) ?_
    try dsimp only [List.getD_toArray, Array.getD]
    first | rfl | (exfalso; omega) | (show (_ || _) = true; simp only [Bool.or_eq_true, beq_iff_eq]; omega) | (show (y == z) = true; rw [beq_iff_eq]; omega)
end Go.Proofs.Yteefnnnbbmbmcaa
