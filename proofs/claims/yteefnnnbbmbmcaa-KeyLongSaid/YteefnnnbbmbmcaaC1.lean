/- Walks of the laws KeptWindow, KeyLong, BitsTell, PartThree, PartFirst, PartOrder -/
import Derived.Test.YteefnnnbbmbmcaaB
namespace Go.Proofs.Yteefnnnbbmbmcaa
open Go.RowKit
set_option maxRecDepth 100000
set_option maxHeartbeats 400000 in
theorem kept_yes (n t : Int) (w : World) (h1 : 0 ≤ t) (h2 : t ≤ n) (h3 : n - t < 6) (_h4 : n ≤ 1000000) :
    Calls Try.prog 40 #[.int .i64 n, .int .i64 t] w fun e w' => e = .returned (.bool true) ∧ w' = w := by
  go_enter Try.func40, Try.ntmps40
  go_wp2
  go_ret
  exact ⟨by simp, rfl⟩
theorem kept_no (n t : Int) (w : World) (h1 : t < 0 ∨ n < t ∨ 6 ≤ n - t) (h4 : 0 ≤ n) (h5 : n ≤ 1000000) (h6 : -10 ≤ t) (h7 : t ≤ 2000000) :
    Calls Try.prog 40 #[.int .i64 n, .int .i64 t] w fun e w' => e = .returned (.bool false) ∧ w' = w := by
  by_cases a : t < 0
  · go_enter Try.func40, Try.ntmps40
    go_wp2
    go_ret
    exact ⟨rfl, rfl⟩
  · by_cases b : n < t
    · go_enter Try.func40, Try.ntmps40
      go_wp2
      go_ret
      exact ⟨rfl, rfl⟩
    · go_enter Try.func40, Try.ntmps40
      go_wp2
      go_ret
      exact ⟨by simp; omega, rfl⟩
/-- How many of the turns from -2 to t - 1 are kept. -/
def many (n t : Int) : Int := min (max (t - max 0 (n - 5)) 0) (min (n + 1) 6)
set_option maxHeartbeats 1000000 in
theorem keptWindow_walk (n0 : Int) (w : World) (h1 : -9223372036854775808 ≤ n0) (h2 : n0 ≤ 9223372036854775807) :
    Calls Try.prog 3 #[.int .i64 n0] w fun e w' => e = .returned (.bool true) ∧ Below w.heap.size w w' := by
  obtain ⟨p0, p1⟩ := pick_bd n0 1000 (by omega)
  go_enter Try.func3, Try.ntmps3
  go_wp2_with fail
  refine (picked_spec _ _ _ h1 h2 (by omega) (by omega)).mono ?_; rintro e w' ⟨rfl, rfl⟩
  generalize pick n0 1000 = n at *
  go_wp2_with fail
  go_loop [4, 5] (fun m t => ∃ k : Nat, k ≤ n + 5 ∧ t = .int .i64 (k - 2) ∧ m = .int .i64 (many n (k - 2))) (fun _ t => (n + 3 - intOf t).toNat)
  case atStart => exact ⟨0, by omega, rfl, by unfold many; congr 1; omega⟩
  case round =>
    obtain ⟨k, hk, rfl, rfl⟩ := hrel
    have hl0 : ((k : Int) - 2) ≤ 1010 := by omega
    by_cases hlt : ((k : Int) - 2) ≤ n + 2
    · by_cases hkept : 0 ≤ ((k : Int) - 2) ∧ ((k : Int) - 2) ≤ n ∧ n - ((k : Int) - 2) < 6
      · obtain ⟨q1, q2, q3⟩ := hkept
        have hm : Hid (many n ((k : Int) - 2) + 1 = many n (((k + 1 : Nat) : Int) - 2)) := by unfold Hid many; omega
        have hb : 0 ≤ many n ((k : Int) - 2) ∧ many n ((k : Int) - 2) ≤ 6 := by unfold many; omega
        obtain ⟨hb1, hb2⟩ := hb
        generalize many n ((k : Int) - 2) = mm at *
        go_wp2_with fail
        refine (kept_yes _ _ _ (by omega) (by omega) (by omega) (by omega)).mono ?_; rintro e w' ⟨rfl, rfl⟩
        go_wp2_with fail
        refine ⟨⟨k + 1, by omega, by go_num, by rw [← hm.out]⟩, by simp [intOf]; omega⟩
      · have hm : Hid (many n ((k : Int) - 2) = many n (((k + 1 : Nat) : Int) - 2)) := by unfold Hid many; omega
        have hno : ((k : Int) - 2) < 0 ∨ n < ((k : Int) - 2) ∨ 6 ≤ n - ((k : Int) - 2) := by omega
        have HNO := hid hno
        clear hno hkept
        generalize many n ((k : Int) - 2) = mm at *
        go_wp2_with fail
        refine (kept_no _ _ _ HNO.out (by omega) (by omega) (by omega) (by omega)).mono ?_; rintro e w' ⟨rfl, rfl⟩
        go_wp2_with fail
        refine ⟨⟨k + 1, by omega, by go_num, by rw [← hm.out]⟩, by simp [intOf]; omega⟩
    · by_cases hn : n + 1 ≤ 6
      · rw [show many n ((k : Int) - 2) = n + 1 from by unfold many; omega]
        go_wp2_with (go_at_call 40; refine (kept_yes _ _ _ (by omega) (by omega) (by omega) (by omega)).mono ?_; rintro e w' ⟨rfl, rfl⟩)
        go_ret
        exact ⟨rfl, Below.refl _ _⟩
      · rw [show many n ((k : Int) - 2) = 6 from by unfold many; omega]
        go_wp2_with (go_at_call 40; refine (kept_yes _ _ _ (by omega) (by omega) (by omega) (by omega)).mono ?_; rintro e w' ⟨rfl, rfl⟩)
        go_ret
        exact ⟨rfl, Below.refl _ _⟩
set_option maxHeartbeats 400000 in
theorem keyLong_walk (n0 : Int) (w : World) (h1 : -9223372036854775808 ≤ n0) (h2 : n0 ≤ 9223372036854775807) :
    Calls Try.prog 4 #[.int .i64 n0] w fun e w' => e = .returned (.bool true) ∧ Below w.heap.size w w' := by
  obtain ⟨p0, p1⟩ := pick_bd n0 40 (by omega)
  obtain ⟨i, hi, hz0, hz1, hz2⟩ := info_parts infoU8
  obtain ⟨n, hn⟩ := Int.eq_ofNat_of_zero_le p0
  have hmk : ∀ u : World, (Instr.makeSlice 27 (.int .i64 (n : Int)) (.int .i64 (n : Int))).run Try.prog u =
      .ok (.slice (some ⟨u.heap.size, 0, none⟩) n n) (u.alloc (.cells (madeCells #[.int .u8 0] n) 5)) := fun u => by
    have h := run_make (P := Try.prog) u 27 5 i (.int .u8 0) Try.underlying27 hi hz0 .i64 .i64 (n : Int) (n : Int) (by omega) (Int.le_refl _) (by rw [hz2]; omega) (by omega)
    simpa [hz1, Value.cells] using h
  have hc := check_len (w.alloc (.cells (madeCells #[.int .u8 0] n) 5)) (some ⟨w.heap.size, 0, none⟩) n n (Nat.le_refl _) (by unfold maxLen; omega)
  rw [hn] at p1
  have hp := picked_spec n0 40 w h1 h2 (by omega) (by omega)
  rw [hn] at hp
  have HP := hid hp
  have HC := hid hc
  clear hn p0 hc hp
  by_cases hk : 1 ≤ n ∧ n ≤ 16
  · rw [checkN_ok hk.1 hk.2] at HC
    obtain ⟨k1, k2⟩ := hk
    go_enter Try.func4, Try.ntmps4
    go_wp2_with fail
    refine HP.out.mono ?_; rintro e w' ⟨rfl, rfl⟩
    go_wp2_with fail
    refine HC.out.mono ?_; rintro e w' ⟨rfl, rfl⟩
    go_wp2_with fail
    go_ret
    exact ⟨by first | (simp; done) | (simp; omega), (Below.refl _ _).alloc (Nat.le_refl _) _⟩
  · rw [checkN_bad hk] at HC
    have hk1 : ¬ (1 ≤ n) ∨ 16 < n := by omega
    clear hk
    rcases hk1 with hk | hk
    all_goals
      go_enter Try.func4, Try.ntmps4
      go_wp2_with fail
      refine HP.out.mono ?_; rintro e w' ⟨rfl, rfl⟩
      go_wp2_with fail
      refine HC.out.mono ?_; rintro e w' ⟨rfl, rfl⟩
      go_wp2_with fail
      go_ret
      exact ⟨by first | (simp; done) | (simp; omega), (Below.refl _ _).alloc (Nat.le_refl _) _⟩
end Go.Proofs.Yteefnnnbbmbmcaa
