/- Rules, plain laws and walks: W1 W2 W3 PW WQ1 WQ2 WQ3 -/
import Derived.Test.YtilgpdpooildcaaGreatDoorBV1
import Derived.Test.YtilgpdpooildcaaGreatDoorBV2
import Derived.Test.YtilgpdpooildcaaGreatDoorBV3
import Derived.Test.YtilgpdpooildcaaGreatDoorBV5
import Derived.Test.YtilgpdpooildcaaGreatDoorBV7
namespace Go.Proofs.YtilgpdpooildcaaGreatDoor
set_option maxHeartbeats 8000000
open Go.RowKit
set_option maxRecDepth 100000
set_option linter.unusedVariables false
/-- The table of what a kind has. -/
def hasL : List Int := [0, 0, 3, 7, 11, 3, 0, 0, 3]
def Has (w : World) : Prop := ∀ i (hi : i < hasL.length), w.cell? ⟨0, i, none⟩ = some (.int .i64 hasL[i])
/-- What wire.Check tells, by the lengths of the parts; h: what the kind has. -/
def partsN (h : Nat) (n y l v : Nat) : Int :=
  if h.testBit 0 ∧ ¬ (1 ≤ n ∧ n ≤ 8) then 1 else if h.testBit 0 ∧ ¬ (1 ≤ y ∧ y ≤ 16) then 1 else if h.testBit 2 ∧ ¬ (1 ≤ l ∧ l ≤ 16) then 1 else if 32 < v then 1
  else if (¬ h.testBit 0 ∧ 0 < n) ∨ (¬ h.testBit 1 ∧ 0 < y) ∨ (¬ h.testBit 2 ∧ 0 < l) ∨ (¬ h.testBit 3 ∧ 0 < v) then 4 else 0
theorem wireCheck_0 (w : World) (k : Nat) (k1 : 1 ≤ k) (k8 : k ≤ 8) (hg : 0 < w.heap.size) (hc : w.cell? ⟨0, k, none⟩ = some (.int .i64 0))
    (a0 a1 a2 a3 : Option Addr) (n y l v c0 c1 c2 c3 : Nat) (bn : n ≤ 9223372036854775807) (by' : y ≤ 9223372036854775807) (bl : l ≤ 9223372036854775807) (bv' : v ≤ 9223372036854775807) (hyc : y ≤ c1) (hyc' : c1 ≤ maxLen) (hlc : l ≤ c2) (hlc' : c2 ≤ maxLen) :
    Calls Tryz.prog 41 #[.agg #[.int .i64 k, .slice a0 n c0, .slice a1 y c1, .slice a2 l c2, .slice a3 v c3]] w (Tells w (.int .i64 (partsN 0 n y l v))) := by
 have HA : Hid (partsN 0 n y l v = if 32 < v then 1 else if 0 < n ∨ 0 < y ∨ 0 < l ∨ 0 < v then 4 else 0) := by
  unfold Hid partsN
  rw [show (0 : Nat).testBit 0 = false from rfl, show (0 : Nat).testBit 1 = false from rfl, show (0 : Nat).testBit 2 = false from rfl, show (0 : Nat).testBit 3 = false from rfl]
  simp
 generalize partsN 0 n y l v = r at *
 have ix0 : ∀ (X : World) (n' y' l' v' : Nat), (Instr.index 91 (.agg #[.slice a0 n' c0, .slice a1 y' c1, .slice a2 l' c2, .slice a3 v' c3]) (.int .i64 0)).run Tryz.prog X = .ok (.slice a0 n' c0) X := fun _ _ _ _ _ => by kernel_rfl
 have ix1 : ∀ (X : World) (n' y' l' v' : Nat), (Instr.index 91 (.agg #[.slice a0 n' c0, .slice a1 y' c1, .slice a2 l' c2, .slice a3 v' c3]) (.int .i64 1)).run Tryz.prog X = .ok (.slice a1 y' c1) X := fun _ _ _ _ _ => by kernel_rfl
 have ix2 : ∀ (X : World) (n' y' l' v' : Nat), (Instr.index 91 (.agg #[.slice a0 n' c0, .slice a1 y' c1, .slice a2 l' c2, .slice a3 v' c3]) (.int .i64 2)).run Tryz.prog X = .ok (.slice a2 l' c2) X := fun _ _ _ _ _ => by kernel_rfl
 have ix3 : ∀ (X : World) (n' y' l' v' : Nat), (Instr.index 91 (.agg #[.slice a0 n' c0, .slice a1 y' c1, .slice a2 l' c2, .slice a3 v' c3]) (.int .i64 3)).run Tryz.prog X = .ok (.slice a3 v' c3) X := fun _ _ _ _ _ => by kernel_rfl
 go_enter Tryz.func41, Tryz.ntmps41
 go_wp2_with fail
 ·go_ret
  exact ⟨retInt (Eq.symm (HA.out.trans (by first | rw [if_pos (by omega)] | rw [if_neg (by omega), if_pos (by omega)] | rw [if_neg (by omega), if_neg (by omega)]))), (Below.refl _ _).alloc (Nat.le_refl _) _⟩
 ·go_loop [58] (fun t => ∃ i : Nat, i ≤ 4 ∧ t = .int .i64 i ∧ (0 < i → n = 0) ∧ (1 < i → y = 0) ∧ (2 < i → l = 0) ∧ (3 < i → v = 0)) (fun t => 4 - (intOf t).toNat)
  case atStart => exact ⟨0, by omega, rfl, by omega⟩
  case round =>
   obtain ⟨i, hi, rfl, hok⟩ := hrel
   have HOK := hid hok
   clear hok
   rcases (by omega : i = 0 ∨ i = 1 ∨ i = 2 ∨ i = 3 ∨ i = 4) with rfl | rfl | rfl | rfl | rfl
   all_goals
    go_wp2_with fail
   all_goals first
    | exact ⟨⟨1, by omega, rfl, (by have h := HOK.out; omega)⟩, by simp [intOf]⟩
    | exact ⟨⟨_, _, _, _, ⟨1, by omega, rfl, (by have h := HOK.out; omega)⟩, rfl, rfl, rfl, rfl⟩, by simp [intOf]⟩
    | exact ⟨⟨2, by omega, rfl, (by have h := HOK.out; omega)⟩, by simp [intOf]⟩
    | exact ⟨⟨_, _, _, _, ⟨2, by omega, rfl, (by have h := HOK.out; omega)⟩, rfl, rfl, rfl, rfl⟩, by simp [intOf]⟩
    | exact ⟨⟨3, by omega, rfl, (by have h := HOK.out; omega)⟩, by simp [intOf]⟩
    | exact ⟨⟨_, _, _, _, ⟨3, by omega, rfl, (by have h := HOK.out; omega)⟩, rfl, rfl, rfl, rfl⟩, by simp [intOf]⟩
    | exact ⟨⟨4, by omega, rfl, (by have h := HOK.out; omega)⟩, by simp [intOf]⟩
    | exact ⟨⟨_, _, _, _, ⟨4, by omega, rfl, (by have h := HOK.out; omega)⟩, rfl, rfl, rfl, rfl⟩, by simp [intOf]⟩
    | (go_ret; have h := HOK.out; exact ⟨retInt (Eq.symm (HA.out.trans (by first | rw [if_pos (by omega)] | rw [if_neg (by omega), if_pos (by omega)] | rw [if_neg (by omega), if_neg (by omega)]))), (Below.refl _ _).alloc (Nat.le_refl _) _⟩)
theorem wireCheck_3 (w : World) (k : Nat) (k1 : 1 ≤ k) (k8 : k ≤ 8) (hg : 0 < w.heap.size) (hc : w.cell? ⟨0, k, none⟩ = some (.int .i64 3))
    (a0 a1 a2 a3 : Option Addr) (n y l v c0 c1 c2 c3 : Nat) (bn : n ≤ 9223372036854775807) (by' : y ≤ 9223372036854775807) (bl : l ≤ 9223372036854775807) (bv' : v ≤ 9223372036854775807) (hyc : y ≤ c1) (hyc' : c1 ≤ maxLen) (hlc : l ≤ c2) (hlc' : c2 ≤ maxLen) :
    Calls Tryz.prog 41 #[.agg #[.int .i64 k, .slice a0 n c0, .slice a1 y c1, .slice a2 l c2, .slice a3 v c3]] w (Tells w (.int .i64 (partsN 3 n y l v))) := by
 have HA : Hid (partsN 3 n y l v = if ¬ (1 ≤ n ∧ n ≤ 8) then 1 else if ¬ (1 ≤ y ∧ y ≤ 16) then 1 else if 32 < v then 1 else if 0 < l ∨ 0 < v then 4 else 0) := by
  unfold Hid partsN
  rw [show (3 : Nat).testBit 0 = true from rfl, show (3 : Nat).testBit 1 = true from rfl, show (3 : Nat).testBit 2 = false from rfl, show (3 : Nat).testBit 3 = false from rfl]
  simp
 generalize partsN 3 n y l v = r at *
 have ix0 : ∀ (X : World) (n' y' l' v' : Nat), (Instr.index 91 (.agg #[.slice a0 n' c0, .slice a1 y' c1, .slice a2 l' c2, .slice a3 v' c3]) (.int .i64 0)).run Tryz.prog X = .ok (.slice a0 n' c0) X := fun _ _ _ _ _ => by kernel_rfl
 have ix1 : ∀ (X : World) (n' y' l' v' : Nat), (Instr.index 91 (.agg #[.slice a0 n' c0, .slice a1 y' c1, .slice a2 l' c2, .slice a3 v' c3]) (.int .i64 1)).run Tryz.prog X = .ok (.slice a1 y' c1) X := fun _ _ _ _ _ => by kernel_rfl
 have ix2 : ∀ (X : World) (n' y' l' v' : Nat), (Instr.index 91 (.agg #[.slice a0 n' c0, .slice a1 y' c1, .slice a2 l' c2, .slice a3 v' c3]) (.int .i64 2)).run Tryz.prog X = .ok (.slice a2 l' c2) X := fun _ _ _ _ _ => by kernel_rfl
 have ix3 : ∀ (X : World) (n' y' l' v' : Nat), (Instr.index 91 (.agg #[.slice a0 n' c0, .slice a1 y' c1, .slice a2 l' c2, .slice a3 v' c3]) (.int .i64 3)).run Tryz.prog X = .ok (.slice a3 v' c3) X := fun _ _ _ _ _ => by kernel_rfl
 by_cases q0 : 1 ≤ n ∧ n ≤ 8
 case neg =>
  have h0 := hid (nameN_bad q0)
  go_enter Tryz.func41, Tryz.ntmps41
  go_wp2_with (go_at_call 42; refine (name_len _ _ _ _).mono ?_; rw [h0.out]; rintro e w' ⟨rfl, rfl⟩)
  go_ret
  exact ⟨retInt (Eq.symm (HA.out.trans (by first | rw [if_pos (by omega)] | rw [if_neg (by omega), if_pos (by omega)] | rw [if_neg (by omega), if_neg (by omega), if_pos (by omega)] | rw [if_neg (by omega), if_neg (by omega), if_neg (by omega), if_pos (by omega)] | rw [if_neg (by omega), if_neg (by omega), if_neg (by omega), if_neg (by omega)]))), (Below.refl _ _).alloc (Nat.le_refl _) _⟩
 by_cases q1 : 1 ≤ y ∧ y ≤ 16
 case neg =>
  have h0 := hid (nameN_ok q0.1 q0.2)
  have h1 := hid (checkN_bad q1)
  go_enter Tryz.func41, Tryz.ntmps41
  go_wp2_with (first | (go_at_call 42; refine (name_len _ _ _ _).mono ?_; rw [h0.out]; rintro e w' ⟨rfl, rfl⟩) | (go_at_call 55; refine (check_len _ _ _ _ hyc hyc').mono ?_; rw [h1.out]; rintro e w' ⟨rfl, rfl⟩))
  go_ret
  exact ⟨retInt (Eq.symm (HA.out.trans (by first | rw [if_pos (by omega)] | rw [if_neg (by omega), if_pos (by omega)] | rw [if_neg (by omega), if_neg (by omega), if_pos (by omega)] | rw [if_neg (by omega), if_neg (by omega), if_neg (by omega), if_pos (by omega)] | rw [if_neg (by omega), if_neg (by omega), if_neg (by omega), if_neg (by omega)]))), (Below.refl _ _).alloc (Nat.le_refl _) _⟩
 have h0 := hid (nameN_ok q0.1 q0.2)
 have h1 := hid (checkN_ok q1.1 q1.2)
 go_enter Tryz.func41, Tryz.ntmps41
 go_wp2_with fail
 refine (name_len _ _ _ _).mono ?_; rw [h0.out]; rintro e w' ⟨rfl, rfl⟩
 go_wp2_with fail
 refine (check_len _ _ _ _ hyc hyc').mono ?_; rw [h1.out]; rintro e w' ⟨rfl, rfl⟩
 go_wp2_with fail
 ·go_ret
  exact ⟨retInt (Eq.symm (HA.out.trans (by first | rw [if_pos (by omega)] | rw [if_neg (by omega), if_pos (by omega)] | rw [if_neg (by omega), if_neg (by omega), if_pos (by omega)] | rw [if_neg (by omega), if_neg (by omega), if_neg (by omega), if_pos (by omega)] | rw [if_neg (by omega), if_neg (by omega), if_neg (by omega), if_neg (by omega)]))), (Below.refl _ _).alloc (Nat.le_refl _) _⟩
 ·go_loop [58] (fun t => ∃ i : Nat, i ≤ 4 ∧ t = .int .i64 i ∧ (2 < i → l = 0) ∧ (3 < i → v = 0)) (fun t => 4 - (intOf t).toNat)
  case atStart => exact ⟨0, by omega, rfl, by omega⟩
  case round =>
   obtain ⟨i, hi, rfl, hok⟩ := hrel
   have HOK := hid hok
   clear hok
   rcases (by omega : i = 0 ∨ i = 1 ∨ i = 2 ∨ i = 3 ∨ i = 4) with rfl | rfl | rfl | rfl | rfl
   all_goals
    go_wp2_with fail
   all_goals first
    | exact ⟨⟨1, by omega, rfl, (by have h := HOK.out; omega)⟩, by simp [intOf]⟩
    | exact ⟨⟨_, _, _, _, ⟨1, by omega, rfl, (by have h := HOK.out; omega)⟩, rfl, rfl, rfl, rfl⟩, by simp [intOf]⟩
    | exact ⟨⟨2, by omega, rfl, (by have h := HOK.out; omega)⟩, by simp [intOf]⟩
    | exact ⟨⟨_, _, _, _, ⟨2, by omega, rfl, (by have h := HOK.out; omega)⟩, rfl, rfl, rfl, rfl⟩, by simp [intOf]⟩
    | exact ⟨⟨3, by omega, rfl, (by have h := HOK.out; omega)⟩, by simp [intOf]⟩
    | exact ⟨⟨_, _, _, _, ⟨3, by omega, rfl, (by have h := HOK.out; omega)⟩, rfl, rfl, rfl, rfl⟩, by simp [intOf]⟩
    | exact ⟨⟨4, by omega, rfl, (by have h := HOK.out; omega)⟩, by simp [intOf]⟩
    | exact ⟨⟨_, _, _, _, ⟨4, by omega, rfl, (by have h := HOK.out; omega)⟩, rfl, rfl, rfl, rfl⟩, by simp [intOf]⟩
    | (go_ret; have h := HOK.out; exact ⟨retInt (Eq.symm (HA.out.trans (by first | rw [if_pos (by omega)] | rw [if_neg (by omega), if_pos (by omega)] | rw [if_neg (by omega), if_neg (by omega), if_pos (by omega)] | rw [if_neg (by omega), if_neg (by omega), if_neg (by omega), if_pos (by omega)] | rw [if_neg (by omega), if_neg (by omega), if_neg (by omega), if_neg (by omega)]))), (Below.refl _ _).alloc (Nat.le_refl _) _⟩)
theorem wireCheck_7 (w : World) (k : Nat) (k1 : 1 ≤ k) (k8 : k ≤ 8) (hg : 0 < w.heap.size) (hc : w.cell? ⟨0, k, none⟩ = some (.int .i64 7))
    (a0 a1 a2 a3 : Option Addr) (n y l v c0 c1 c2 c3 : Nat) (bn : n ≤ 9223372036854775807) (by' : y ≤ 9223372036854775807) (bl : l ≤ 9223372036854775807) (bv' : v ≤ 9223372036854775807) (hyc : y ≤ c1) (hyc' : c1 ≤ maxLen) (hlc : l ≤ c2) (hlc' : c2 ≤ maxLen) :
    Calls Tryz.prog 41 #[.agg #[.int .i64 k, .slice a0 n c0, .slice a1 y c1, .slice a2 l c2, .slice a3 v c3]] w (Tells w (.int .i64 (partsN 7 n y l v))) := by
 have HA : Hid (partsN 7 n y l v = if ¬ (1 ≤ n ∧ n ≤ 8) then 1 else if ¬ (1 ≤ y ∧ y ≤ 16) then 1 else if ¬ (1 ≤ l ∧ l ≤ 16) then 1 else if 32 < v then 1 else if 0 < v then 4 else 0) := by
  unfold Hid partsN
  rw [show (7 : Nat).testBit 0 = true from rfl, show (7 : Nat).testBit 1 = true from rfl, show (7 : Nat).testBit 2 = true from rfl, show (7 : Nat).testBit 3 = false from rfl]
  simp
 generalize partsN 7 n y l v = r at *
 have ix0 : ∀ (X : World) (n' y' l' v' : Nat), (Instr.index 91 (.agg #[.slice a0 n' c0, .slice a1 y' c1, .slice a2 l' c2, .slice a3 v' c3]) (.int .i64 0)).run Tryz.prog X = .ok (.slice a0 n' c0) X := fun _ _ _ _ _ => by kernel_rfl
 have ix1 : ∀ (X : World) (n' y' l' v' : Nat), (Instr.index 91 (.agg #[.slice a0 n' c0, .slice a1 y' c1, .slice a2 l' c2, .slice a3 v' c3]) (.int .i64 1)).run Tryz.prog X = .ok (.slice a1 y' c1) X := fun _ _ _ _ _ => by kernel_rfl
 have ix2 : ∀ (X : World) (n' y' l' v' : Nat), (Instr.index 91 (.agg #[.slice a0 n' c0, .slice a1 y' c1, .slice a2 l' c2, .slice a3 v' c3]) (.int .i64 2)).run Tryz.prog X = .ok (.slice a2 l' c2) X := fun _ _ _ _ _ => by kernel_rfl
 have ix3 : ∀ (X : World) (n' y' l' v' : Nat), (Instr.index 91 (.agg #[.slice a0 n' c0, .slice a1 y' c1, .slice a2 l' c2, .slice a3 v' c3]) (.int .i64 3)).run Tryz.prog X = .ok (.slice a3 v' c3) X := fun _ _ _ _ _ => by kernel_rfl
 by_cases q0 : 1 ≤ n ∧ n ≤ 8
 case neg =>
  have h0 := hid (nameN_bad q0)
  go_enter Tryz.func41, Tryz.ntmps41
  go_wp2_with (go_at_call 42; refine (name_len _ _ _ _).mono ?_; rw [h0.out]; rintro e w' ⟨rfl, rfl⟩)
  go_ret
  exact ⟨retInt (Eq.symm (HA.out.trans (by first | rw [if_pos (by omega)] | rw [if_neg (by omega), if_pos (by omega)] | rw [if_neg (by omega), if_neg (by omega), if_pos (by omega)] | rw [if_neg (by omega), if_neg (by omega), if_neg (by omega), if_pos (by omega)] | rw [if_neg (by omega), if_neg (by omega), if_neg (by omega), if_neg (by omega), if_pos (by omega)] | rw [if_neg (by omega), if_neg (by omega), if_neg (by omega), if_neg (by omega), if_neg (by omega)]))), (Below.refl _ _).alloc (Nat.le_refl _) _⟩
 by_cases q1 : 1 ≤ y ∧ y ≤ 16
 case neg =>
  have h0 := hid (nameN_ok q0.1 q0.2)
  have h1 := hid (checkN_bad q1)
  go_enter Tryz.func41, Tryz.ntmps41
  go_wp2_with (first | (go_at_call 42; refine (name_len _ _ _ _).mono ?_; rw [h0.out]; rintro e w' ⟨rfl, rfl⟩) | (go_at_call 55; refine (check_len _ _ _ _ hyc hyc').mono ?_; rw [h1.out]; rintro e w' ⟨rfl, rfl⟩))
  go_ret
  exact ⟨retInt (Eq.symm (HA.out.trans (by first | rw [if_pos (by omega)] | rw [if_neg (by omega), if_pos (by omega)] | rw [if_neg (by omega), if_neg (by omega), if_pos (by omega)] | rw [if_neg (by omega), if_neg (by omega), if_neg (by omega), if_pos (by omega)] | rw [if_neg (by omega), if_neg (by omega), if_neg (by omega), if_neg (by omega), if_pos (by omega)] | rw [if_neg (by omega), if_neg (by omega), if_neg (by omega), if_neg (by omega), if_neg (by omega)]))), (Below.refl _ _).alloc (Nat.le_refl _) _⟩
 have h0 := hid (nameN_ok q0.1 q0.2)
 have h1 := hid (checkN_ok q1.1 q1.2)
 by_cases q2 : 1 ≤ l ∧ l ≤ 16
 case neg =>
  have h2 := hid (checkN_bad q2)
  go_enter Tryz.func41, Tryz.ntmps41
  go_wp2_with fail
  refine (name_len _ _ _ _).mono ?_; rw [h0.out]; rintro e w' ⟨rfl, rfl⟩
  go_wp2_with fail
  refine (check_len _ _ _ _ hyc hyc').mono ?_; rw [h1.out]; rintro e w' ⟨rfl, rfl⟩
  go_wp2_with fail
  refine (check_len _ _ _ _ hlc hlc').mono ?_; rw [h2.out]; rintro e w' ⟨rfl, rfl⟩
  go_wp2_with fail
  go_ret
  exact ⟨retInt (Eq.symm (HA.out.trans (by first | rw [if_pos (by omega)] | rw [if_neg (by omega), if_pos (by omega)] | rw [if_neg (by omega), if_neg (by omega), if_pos (by omega)] | rw [if_neg (by omega), if_neg (by omega), if_neg (by omega), if_pos (by omega)] | rw [if_neg (by omega), if_neg (by omega), if_neg (by omega), if_neg (by omega), if_pos (by omega)] | rw [if_neg (by omega), if_neg (by omega), if_neg (by omega), if_neg (by omega), if_neg (by omega)]))), (Below.refl _ _).alloc (Nat.le_refl _) _⟩
 have h2 := hid (checkN_ok q2.1 q2.2)
 go_enter Tryz.func41, Tryz.ntmps41
 go_wp2_with fail
 refine (name_len _ _ _ _).mono ?_; rw [h0.out]; rintro e w' ⟨rfl, rfl⟩
 go_wp2_with fail
 refine (check_len _ _ _ _ hyc hyc').mono ?_; rw [h1.out]; rintro e w' ⟨rfl, rfl⟩
 go_wp2_with fail
 refine (check_len _ _ _ _ hlc hlc').mono ?_; rw [h2.out]; rintro e w' ⟨rfl, rfl⟩
 go_wp2_with fail
 ·go_ret
  exact ⟨retInt (Eq.symm (HA.out.trans (by first | rw [if_pos (by omega)] | rw [if_neg (by omega), if_pos (by omega)] | rw [if_neg (by omega), if_neg (by omega), if_pos (by omega)] | rw [if_neg (by omega), if_neg (by omega), if_neg (by omega), if_pos (by omega)] | rw [if_neg (by omega), if_neg (by omega), if_neg (by omega), if_neg (by omega), if_pos (by omega)] | rw [if_neg (by omega), if_neg (by omega), if_neg (by omega), if_neg (by omega), if_neg (by omega)]))), (Below.refl _ _).alloc (Nat.le_refl _) _⟩
 ·go_loop [58] (fun t => ∃ i : Nat, i ≤ 4 ∧ t = .int .i64 i ∧ (3 < i → v = 0)) (fun t => 4 - (intOf t).toNat)
  case atStart => exact ⟨0, by omega, rfl, by omega⟩
  case round =>
   obtain ⟨i, hi, rfl, hok⟩ := hrel
   have HOK := hid hok
   clear hok
   rcases (by omega : i = 0 ∨ i = 1 ∨ i = 2 ∨ i = 3 ∨ i = 4) with rfl | rfl | rfl | rfl | rfl
   all_goals
    go_wp2_with fail
   all_goals first
    | exact ⟨⟨1, by omega, rfl, (by have h := HOK.out; omega)⟩, by simp [intOf]⟩
    | exact ⟨⟨_, _, _, _, ⟨1, by omega, rfl, (by have h := HOK.out; omega)⟩, rfl, rfl, rfl, rfl⟩, by simp [intOf]⟩
    | exact ⟨⟨2, by omega, rfl, (by have h := HOK.out; omega)⟩, by simp [intOf]⟩
    | exact ⟨⟨_, _, _, _, ⟨2, by omega, rfl, (by have h := HOK.out; omega)⟩, rfl, rfl, rfl, rfl⟩, by simp [intOf]⟩
    | exact ⟨⟨3, by omega, rfl, (by have h := HOK.out; omega)⟩, by simp [intOf]⟩
    | exact ⟨⟨_, _, _, _, ⟨3, by omega, rfl, (by have h := HOK.out; omega)⟩, rfl, rfl, rfl, rfl⟩, by simp [intOf]⟩
    | exact ⟨⟨4, by omega, rfl, (by have h := HOK.out; omega)⟩, by simp [intOf]⟩
    | exact ⟨⟨_, _, _, _, ⟨4, by omega, rfl, (by have h := HOK.out; omega)⟩, rfl, rfl, rfl, rfl⟩, by simp [intOf]⟩
    | (go_ret; have h := HOK.out; exact ⟨retInt (Eq.symm (HA.out.trans (by first | rw [if_pos (by omega)] | rw [if_neg (by omega), if_pos (by omega)] | rw [if_neg (by omega), if_neg (by omega), if_pos (by omega)] | rw [if_neg (by omega), if_neg (by omega), if_neg (by omega), if_pos (by omega)] | rw [if_neg (by omega), if_neg (by omega), if_neg (by omega), if_neg (by omega), if_pos (by omega)] | rw [if_neg (by omega), if_neg (by omega), if_neg (by omega), if_neg (by omega), if_neg (by omega)]))), (Below.refl _ _).alloc (Nat.le_refl _) _⟩)
theorem wireCheck_11 (w : World) (k : Nat) (k1 : 1 ≤ k) (k8 : k ≤ 8) (hg : 0 < w.heap.size) (hc : w.cell? ⟨0, k, none⟩ = some (.int .i64 11))
    (a0 a1 a2 a3 : Option Addr) (n y l v c0 c1 c2 c3 : Nat) (bn : n ≤ 9223372036854775807) (by' : y ≤ 9223372036854775807) (bl : l ≤ 9223372036854775807) (bv' : v ≤ 9223372036854775807) (hyc : y ≤ c1) (hyc' : c1 ≤ maxLen) (hlc : l ≤ c2) (hlc' : c2 ≤ maxLen) :
    Calls Tryz.prog 41 #[.agg #[.int .i64 k, .slice a0 n c0, .slice a1 y c1, .slice a2 l c2, .slice a3 v c3]] w (Tells w (.int .i64 (partsN 11 n y l v))) := by
 have HA : Hid (partsN 11 n y l v = if ¬ (1 ≤ n ∧ n ≤ 8) then 1 else if ¬ (1 ≤ y ∧ y ≤ 16) then 1 else if 32 < v then 1 else if 0 < l then 4 else 0) := by
  unfold Hid partsN
  rw [show (11 : Nat).testBit 0 = true from rfl, show (11 : Nat).testBit 1 = true from rfl, show (11 : Nat).testBit 2 = false from rfl, show (11 : Nat).testBit 3 = true from rfl]
  simp
 generalize partsN 11 n y l v = r at *
 have ix0 : ∀ (X : World) (n' y' l' v' : Nat), (Instr.index 91 (.agg #[.slice a0 n' c0, .slice a1 y' c1, .slice a2 l' c2, .slice a3 v' c3]) (.int .i64 0)).run Tryz.prog X = .ok (.slice a0 n' c0) X := fun _ _ _ _ _ => by kernel_rfl
 have ix1 : ∀ (X : World) (n' y' l' v' : Nat), (Instr.index 91 (.agg #[.slice a0 n' c0, .slice a1 y' c1, .slice a2 l' c2, .slice a3 v' c3]) (.int .i64 1)).run Tryz.prog X = .ok (.slice a1 y' c1) X := fun _ _ _ _ _ => by kernel_rfl
 have ix2 : ∀ (X : World) (n' y' l' v' : Nat), (Instr.index 91 (.agg #[.slice a0 n' c0, .slice a1 y' c1, .slice a2 l' c2, .slice a3 v' c3]) (.int .i64 2)).run Tryz.prog X = .ok (.slice a2 l' c2) X := fun _ _ _ _ _ => by kernel_rfl
 have ix3 : ∀ (X : World) (n' y' l' v' : Nat), (Instr.index 91 (.agg #[.slice a0 n' c0, .slice a1 y' c1, .slice a2 l' c2, .slice a3 v' c3]) (.int .i64 3)).run Tryz.prog X = .ok (.slice a3 v' c3) X := fun _ _ _ _ _ => by kernel_rfl
 by_cases q0 : 1 ≤ n ∧ n ≤ 8
 case neg =>
  have h0 := hid (nameN_bad q0)
  go_enter Tryz.func41, Tryz.ntmps41
  go_wp2_with (go_at_call 42; refine (name_len _ _ _ _).mono ?_; rw [h0.out]; rintro e w' ⟨rfl, rfl⟩)
  go_ret
  exact ⟨retInt (Eq.symm (HA.out.trans (by first | rw [if_pos (by omega)] | rw [if_neg (by omega), if_pos (by omega)] | rw [if_neg (by omega), if_neg (by omega), if_pos (by omega)] | rw [if_neg (by omega), if_neg (by omega), if_neg (by omega), if_pos (by omega)] | rw [if_neg (by omega), if_neg (by omega), if_neg (by omega), if_neg (by omega)]))), (Below.refl _ _).alloc (Nat.le_refl _) _⟩
 by_cases q1 : 1 ≤ y ∧ y ≤ 16
 case neg =>
  have h0 := hid (nameN_ok q0.1 q0.2)
  have h1 := hid (checkN_bad q1)
  go_enter Tryz.func41, Tryz.ntmps41
  go_wp2_with (first | (go_at_call 42; refine (name_len _ _ _ _).mono ?_; rw [h0.out]; rintro e w' ⟨rfl, rfl⟩) | (go_at_call 55; refine (check_len _ _ _ _ hyc hyc').mono ?_; rw [h1.out]; rintro e w' ⟨rfl, rfl⟩))
  go_ret
  exact ⟨retInt (Eq.symm (HA.out.trans (by first | rw [if_pos (by omega)] | rw [if_neg (by omega), if_pos (by omega)] | rw [if_neg (by omega), if_neg (by omega), if_pos (by omega)] | rw [if_neg (by omega), if_neg (by omega), if_neg (by omega), if_pos (by omega)] | rw [if_neg (by omega), if_neg (by omega), if_neg (by omega), if_neg (by omega)]))), (Below.refl _ _).alloc (Nat.le_refl _) _⟩
 have h0 := hid (nameN_ok q0.1 q0.2)
 have h1 := hid (checkN_ok q1.1 q1.2)
 go_enter Tryz.func41, Tryz.ntmps41
 go_wp2_with fail
 refine (name_len _ _ _ _).mono ?_; rw [h0.out]; rintro e w' ⟨rfl, rfl⟩
 go_wp2_with fail
 refine (check_len _ _ _ _ hyc hyc').mono ?_; rw [h1.out]; rintro e w' ⟨rfl, rfl⟩
 go_wp2_with fail
 ·go_ret
  exact ⟨retInt (Eq.symm (HA.out.trans (by first | rw [if_pos (by omega)] | rw [if_neg (by omega), if_pos (by omega)] | rw [if_neg (by omega), if_neg (by omega), if_pos (by omega)] | rw [if_neg (by omega), if_neg (by omega), if_neg (by omega), if_pos (by omega)] | rw [if_neg (by omega), if_neg (by omega), if_neg (by omega), if_neg (by omega)]))), (Below.refl _ _).alloc (Nat.le_refl _) _⟩
 ·go_loop [58] (fun t => ∃ i : Nat, i ≤ 4 ∧ t = .int .i64 i ∧ (2 < i → l = 0)) (fun t => 4 - (intOf t).toNat)
  case atStart => exact ⟨0, by omega, rfl, by omega⟩
  case round =>
   obtain ⟨i, hi, rfl, hok⟩ := hrel
   have HOK := hid hok
   clear hok
   rcases (by omega : i = 0 ∨ i = 1 ∨ i = 2 ∨ i = 3 ∨ i = 4) with rfl | rfl | rfl | rfl | rfl
   all_goals
    go_wp2_with fail
   all_goals first
    | exact ⟨⟨1, by omega, rfl, (by have h := HOK.out; omega)⟩, by simp [intOf]⟩
    | exact ⟨⟨_, _, _, _, ⟨1, by omega, rfl, (by have h := HOK.out; omega)⟩, rfl, rfl, rfl, rfl⟩, by simp [intOf]⟩
    | exact ⟨⟨2, by omega, rfl, (by have h := HOK.out; omega)⟩, by simp [intOf]⟩
    | exact ⟨⟨_, _, _, _, ⟨2, by omega, rfl, (by have h := HOK.out; omega)⟩, rfl, rfl, rfl, rfl⟩, by simp [intOf]⟩
    | exact ⟨⟨3, by omega, rfl, (by have h := HOK.out; omega)⟩, by simp [intOf]⟩
    | exact ⟨⟨_, _, _, _, ⟨3, by omega, rfl, (by have h := HOK.out; omega)⟩, rfl, rfl, rfl, rfl⟩, by simp [intOf]⟩
    | exact ⟨⟨4, by omega, rfl, (by have h := HOK.out; omega)⟩, by simp [intOf]⟩
    | exact ⟨⟨_, _, _, _, ⟨4, by omega, rfl, (by have h := HOK.out; omega)⟩, rfl, rfl, rfl, rfl⟩, by simp [intOf]⟩
    | (go_ret; have h := HOK.out; exact ⟨retInt (Eq.symm (HA.out.trans (by first | rw [if_pos (by omega)] | rw [if_neg (by omega), if_pos (by omega)] | rw [if_neg (by omega), if_neg (by omega), if_pos (by omega)] | rw [if_neg (by omega), if_neg (by omega), if_neg (by omega), if_pos (by omega)] | rw [if_neg (by omega), if_neg (by omega), if_neg (by omega), if_neg (by omega)]))), (Below.refl _ _).alloc (Nat.le_refl _) _⟩)
/-- A request by value. -/
def ReqV (F : Fz) (v : Value) (kind : Int) (n y l x : List UInt8) : Prop := ∃ a b c d, v = .agg #[.int .i64 kind, a, b, c, d] ∧ Bs F a n ∧ Bs F b y ∧ Bs F c l ∧ Bs F d x
def wireN (k : Nat) (n y l v : Nat) : Int := partsN (hasL.getD k 0).toNat n y l v
theorem wireCheck_spec (F : Fz) (w : World) (v : Value) (k : Nat) (n y l x : List UInt8) (k1 : 1 ≤ k) (k8 : k ≤ 8) (hh : Has w) (hv : ReqV F v k n y l x) :
    Calls Tryz.prog 41 #[v] w (Tells w (.int .i64 (wireN k n.length y.length l.length x.length))) := by
 obtain ⟨a, b, c, d, rfl, ha, hb, hc, hd⟩ := hv
 obtain ⟨a0, c0, rfl, e1, e2⟩ := ha.shape
 obtain ⟨a1, c1, rfl, e3, e4⟩ := hb.shape
 obtain ⟨a2, c2, rfl, e5, e6⟩ := hc.shape
 obtain ⟨a3, c3, rfl, e7, e8⟩ := hd.shape
 have f2 := e2
 have f4 := e4
 have f6 := e6
 have f8 := e8
 unfold maxLen at f2 f4 f6 f8
 have hg : 0 < w.heap.size := World.block_lt_of_cell? w ⟨0, 0, none⟩ (hh 0 (by decide))
 have hk := hh k (by simp [hasL]; omega)
 unfold wireN
 rcases (by omega : k = 1 ∨ k = 2 ∨ k = 3 ∨ k = 4 ∨ k = 5 ∨ k = 6 ∨ k = 7 ∨ k = 8) with rfl | rfl | rfl | rfl | rfl | rfl | rfl | rfl
 ·exact wireCheck_0 w 1 k1 k8 hg hk _ _ _ _ _ _ _ _ _ _ _ _ (by omega) (by omega) (by omega) (by omega) e3 e4 e5 e6
 ·exact wireCheck_3 w 2 k1 k8 hg hk _ _ _ _ _ _ _ _ _ _ _ _ (by omega) (by omega) (by omega) (by omega) e3 e4 e5 e6
 ·exact wireCheck_7 w 3 k1 k8 hg hk _ _ _ _ _ _ _ _ _ _ _ _ (by omega) (by omega) (by omega) (by omega) e3 e4 e5 e6
 ·exact wireCheck_11 w 4 k1 k8 hg hk _ _ _ _ _ _ _ _ _ _ _ _ (by omega) (by omega) (by omega) (by omega) e3 e4 e5 e6
 ·exact wireCheck_3 w 5 k1 k8 hg hk _ _ _ _ _ _ _ _ _ _ _ _ (by omega) (by omega) (by omega) (by omega) e3 e4 e5 e6
 ·exact wireCheck_0 w 6 k1 k8 hg hk _ _ _ _ _ _ _ _ _ _ _ _ (by omega) (by omega) (by omega) (by omega) e3 e4 e5 e6
 ·exact wireCheck_0 w 7 k1 k8 hg hk _ _ _ _ _ _ _ _ _ _ _ _ (by omega) (by omega) (by omega) (by omega) e3 e4 e5 e6
 ·exact wireCheck_3 w 8 k1 k8 hg hk _ _ _ _ _ _ _ _ _ _ _ _ (by omega) (by omega) (by omega) (by omega) e3 e4 e5 e6
set_option linter.unusedSimpArgs false
theorem Has.below {w w' : World} (h : Has w) (hb : Below w.heap.size w w') : Has w' := fun i hi => by
  rw [hb.cell (World.block_lt_of_cell? w ⟨0, i, none⟩ (h i hi))]; exact h i hi
def hasN (k : Nat) : Nat := (hasL.getD k 0).toNat
def Rq.part (r : Rq) : Nat → By
  | 0 => r.name
  | 1 => r.key
  | 2 => r.last
  | _ => r.value
def Rq.put (r : Rq) : Nat → By → Rq
  | 0, p => { r with name := p }
  | 1, p => { r with key := p }
  | 2, p => { r with last := p }
  | _, p => { r with value := p }
def encPre (h : Nat) (r : Rq) : Nat → By
  | 0 => []
  | i + 1 => encPre h r i ++ optE (h.testBit i) (r.part i)
theorem encPre_all (h : Nat) (r : Rq) : encPre h r 4 = encW h r := by
 simp [encPre, encW, Rq.part]
theorem encPre_no {h i : Nat} (r : Rq) (e : h.testBit i = false) : encPre h r (i + 1) = encPre h r i := by
 simp [encPre, optE, e]
theorem encPre_yes {h i : Nat} (r : Rq) (e : h.testBit i = true) : encPre h r (i + 1) = encPre h r i ++ b8 (r.part i).length :: r.part i := by
 simp [encPre, optE, e, encPart]
def decFrom (h : Nat) : Nat → Nat → Rq → By → Option (Rq × By)
  | 0, _, r, b => some (r, b)
  | n + 1, i, r, b => if h.testBit i = true then
      match partW b with
      | none => none
      | some p => decFrom h n (i + 1) (r.put i p.1) p.2
    else decFrom h n (i + 1) r b
theorem decFrom_no {h n i : Nat} {r : Rq} {b : By} (e : h.testBit i = false) : decFrom h (n + 1) i r b = decFrom h n (i + 1) r b := by
 rw [decFrom, if_neg (by rw [e]; decide)]
theorem decFrom_none {h n i : Nat} {r : Rq} {b : By} (e : h.testBit i = true) (k : partW b = none) : decFrom h (n + 1) i r b = none := by
 rw [decFrom, if_pos e, k]
theorem decFrom_some {h n i : Nat} {r : Rq} {b : By} {p : By × By} (e : h.testBit i = true) (k : partW b = some p) : decFrom h (n + 1) i r b = decFrom h n (i + 1) (r.put i p.1) p.2 := by
 rw [decFrom, if_pos e, k]
theorem decFrom_all (h : Nat) (b : By) : decFrom h 4 0 ⟨[], [], [], []⟩ b = decW h b := by
 unfold decW optW
 cases e0 : h.testBit 0
 ·rw [decFrom_no e0]
  cases e1 : h.testBit 1
  ·rw [decFrom_no e1]
   cases e2 : h.testBit 2
   ·rw [decFrom_no e2]
    cases e3 : h.testBit 3
    ·rw [decFrom_no e3]; simp [decFrom]
    ·cases k3 : partW b with
     | none => rw [decFrom_none e3 k3]; simp [k3]
     | some p3 => rw [decFrom_some e3 k3]; simp [k3, decFrom, Rq.put]
   ·cases k2 : partW b with
    | none => rw [decFrom_none e2 k2]; simp [k2]
    | some p2 =>
     rw [decFrom_some e2 k2]
     cases e3 : h.testBit 3
     ·rw [decFrom_no e3]; simp [k2, decFrom, Rq.put]
     ·cases k3 : partW p2.2 with
      | none => rw [decFrom_none e3 k3]; simp [k2, k3]
      | some p3 => rw [decFrom_some e3 k3]; simp [k2, k3, decFrom, Rq.put]
  ·cases k1 : partW b with
   | none => rw [decFrom_none e1 k1]; simp [k1]
   | some p1 =>
    rw [decFrom_some e1 k1]
    cases e2 : h.testBit 2
    ·rw [decFrom_no e2]
     cases e3 : h.testBit 3
     ·rw [decFrom_no e3]; simp [k1, decFrom, Rq.put]
     ·cases k3 : partW p1.2 with
      | none => rw [decFrom_none e3 k3]; simp [k1, k3]
      | some p3 => rw [decFrom_some e3 k3]; simp [k1, k3, decFrom, Rq.put]
    ·cases k2 : partW p1.2 with
     | none => rw [decFrom_none e2 k2]; simp [k1, k2]
     | some p2 =>
      rw [decFrom_some e2 k2]
      cases e3 : h.testBit 3
      ·rw [decFrom_no e3]; simp [k1, k2, decFrom, Rq.put]
      ·cases k3 : partW p2.2 with
       | none => rw [decFrom_none e3 k3]; simp [k1, k2, k3]
       | some p3 => rw [decFrom_some e3 k3]; simp [k1, k2, k3, decFrom, Rq.put]
 ·cases k0 : partW b with
  | none => rw [decFrom_none e0 k0]; simp [k0]
  | some p0 =>
   rw [decFrom_some e0 k0]
   cases e1 : h.testBit 1
   ·rw [decFrom_no e1]
    cases e2 : h.testBit 2
    ·rw [decFrom_no e2]
     cases e3 : h.testBit 3
     ·rw [decFrom_no e3]; simp [decFrom, Rq.put]
     ·cases k3 : partW p0.2 with
      | none => rw [decFrom_none e3 k3]; simp [k3]
      | some p3 => rw [decFrom_some e3 k3]; simp [k3, decFrom, Rq.put]
    ·cases k2 : partW p0.2 with
     | none => rw [decFrom_none e2 k2]; simp [k2]
     | some p2 =>
      rw [decFrom_some e2 k2]
      cases e3 : h.testBit 3
      ·rw [decFrom_no e3]; simp [k2, decFrom, Rq.put]
      ·cases k3 : partW p2.2 with
       | none => rw [decFrom_none e3 k3]; simp [k2, k3]
       | some p3 => rw [decFrom_some e3 k3]; simp [k2, k3, decFrom, Rq.put]
   ·cases k1 : partW p0.2 with
    | none => rw [decFrom_none e1 k1]; simp [k1]
    | some p1 =>
     rw [decFrom_some e1 k1]
     cases e2 : h.testBit 2
     ·rw [decFrom_no e2]
      cases e3 : h.testBit 3
      ·rw [decFrom_no e3]; simp [k1, decFrom, Rq.put]
      ·cases k3 : partW p1.2 with
       | none => rw [decFrom_none e3 k3]; simp [k1, k3]
       | some p3 => rw [decFrom_some e3 k3]; simp [k1, k3, decFrom, Rq.put]
     ·cases k2 : partW p1.2 with
      | none => rw [decFrom_none e2 k2]; simp [k1, k2]
      | some p2 =>
       rw [decFrom_some e2 k2]
       cases e3 : h.testBit 3
       ·rw [decFrom_no e3]; simp [k1, k2, decFrom, Rq.put]
       ·cases k3 : partW p2.2 with
        | none => rw [decFrom_none e3 k3]; simp [k1, k2, k3]
        | some p3 => rw [decFrom_some e3 k3]; simp [k1, k2, k3, decFrom, Rq.put]
theorem part_nil {b : By} (h : b.length = 0) : partW b = none := by
 rw [List.eq_nil_of_length_eq_zero h]; rfl
theorem part_short {b : By} {x : UInt8} (h : b[0]? = some x) (k : b.length < 1 + x.toNat) : partW b = none := by
 cases b with
 | nil => cases h
 | cons y t =>
  simp only [List.getElem?_cons_zero, Option.some.injEq] at h
  subst h
  simp only [List.length_cons] at k
  rw [partW_cons, if_pos (by omega)]
theorem part_long {b : By} {x : UInt8} (h : b[0]? = some x) (k : ¬ b.length < 1 + x.toNat) : partW b = some ((b.take (1 + x.toNat)).drop 1, b.drop (1 + x.toNat)) := by
 cases b with
 | nil => cases h
 | cons y t =>
  simp only [List.getElem?_cons_zero, Option.some.injEq] at h
  subst h
  simp only [List.length_cons] at k
  rw [partW_cons, if_neg (by omega), Nat.add_comm 1]
  simp
/-- What wire.Decode tells. -/
def wdE (b : By) : Int :=
  if 4000 < b.length then 1 else match b with
  | [] => 14
  | x :: t => if x.toNat < 1 ∨ 8 < x.toNat then 5 else match decW (hasN x.toNat) t with
    | none => 14
    | some p => if 0 < p.2.length then 4 else wireN x.toNat p.1.name.length p.1.key.length p.1.last.length p.1.value.length
def wdR (b : By) : Nat × Rq :=
  if wdE b = 0 then match b with
    | [] => (0, ⟨[], [], [], []⟩)
    | x :: t => match decW (hasN x.toNat) t with
      | none => (0, ⟨[], [], [], []⟩)
      | some p => (x.toNat, p.1)
  else (0, ⟨[], [], [], []⟩)
theorem hasN_val (k : Nat) (h : 1 ≤ k ∧ k ≤ 8) : hasN k = 0 ∨ hasN k = 3 ∨ hasN k = 7 ∨ hasN k = 11 := by
 rcases (by omega : k = 1 ∨ k = 2 ∨ k = 3 ∨ k = 4 ∨ k = 5 ∨ k = 6 ∨ k = 7 ∨ k = 8) with rfl | rfl | rfl | rfl | rfl | rfl | rfl | rfl <;> decide
theorem hasN_01 (k : Nat) (h : 1 ≤ k ∧ k ≤ 8) : (hasN k).testBit 1 = (hasN k).testBit 0 := by
 rcases hasN_val k h with e | e | e | e <;> rw [e] <;> rfl
theorem parts_ok {h n y l v : Nat} (e : partsN h n y l v = 0) : (h.testBit 0 = true → 1 ≤ n ∧ n ≤ 8) ∧ (h.testBit 0 = true → 1 ≤ y ∧ y ≤ 16) ∧ (h.testBit 2 = true → 1 ≤ l ∧ l ≤ 16) ∧ v ≤ 32 ∧
    (h.testBit 0 = false → n = 0) ∧ (h.testBit 1 = false → y = 0) ∧ (h.testBit 2 = false → l = 0) ∧ (h.testBit 3 = false → v = 0) := by
 unfold partsN at e
 split at e
 exact absurd e (by decide)
 split at e
 exact absurd e (by decide)
 split at e
 exact absurd e (by decide)
 split at e
 exact absurd e (by decide)
 split at e
 exact absurd e (by decide)
 rename_i q1 q2 q3 q4 q5
 refine ⟨fun hb => Decidable.byContradiction fun hn => q1 ⟨hb, hn⟩, fun hb => Decidable.byContradiction fun hn => q2 ⟨hb, hn⟩, fun hb => Decidable.byContradiction fun hn => q3 ⟨hb, hn⟩, by omega, fun hb => ?_, fun hb => ?_, fun hb => ?_, fun hb => ?_⟩
 exact Decidable.byContradiction fun hn => q5 (Or.inl ⟨by rw [hb]; decide, by omega⟩)
 exact Decidable.byContradiction fun hn => q5 (Or.inr (Or.inl ⟨by rw [hb]; decide, by omega⟩))
 exact Decidable.byContradiction fun hn => q5 (Or.inr (Or.inr (Or.inl ⟨by rw [hb]; decide, by omega⟩)))
 exact Decidable.byContradiction fun hn => q5 (Or.inr (Or.inr (Or.inr ⟨by rw [hb]; decide, by omega⟩)))
theorem fits_of {k : Nat} (hk : 1 ≤ k ∧ k ≤ 8) {r : Rq} (h : wireN k r.name.length r.key.length r.last.length r.value.length = 0) : FitsW (hasN k) r := by
 obtain ⟨a1, a2, a3, a4, a5, a6, a7, a8⟩ := parts_ok (h := hasN k) h
 have hb := hasN_01 k hk
 have e0 : ∀ {l : By}, l.length = 0 → l = [] := fun h => List.eq_nil_of_length_eq_zero h
 refine ⟨⟨?_, fun q => e0 (a5 q)⟩, ⟨?_, fun q => e0 (a6 q)⟩, ⟨?_, fun q => e0 (a7 q)⟩, ⟨by omega, fun q => e0 (a8 q)⟩⟩
 cases e : (hasN k).testBit 0
 have := a5 e; omega
 have := a1 e; omega
 cases e : (hasN k).testBit 0
 have := a6 (hb.trans e); omega
 have := a2 e; omega
 cases e : (hasN k).testBit 2
 have := a7 e; omega
 have := a3 e; omega
/-- A request that may be. -/
structure RqOk (k : Nat) (r : Rq) : Prop where
  kind : 1 ≤ k ∧ k ≤ 8
  fits : wireN k r.name.length r.key.length r.last.length r.value.length = 0
def encQ (k : Nat) (r : Rq) : By := b8 k :: encW (hasN k) r
theorem RqOk.lens {k : Nat} {r : Rq} (h : RqOk k r) : r.name.length ≤ 8 ∧ r.key.length ≤ 16 ∧ r.last.length ≤ 16 ∧ r.value.length ≤ 32 := by
 obtain ⟨a1, a2, a3, a4, a5, a6, a7, a8⟩ := parts_ok (h := hasN k) h.fits
 have hb := hasN_01 k h.kind
 refine ⟨?_, ?_, ?_, a4⟩
 cases e : (hasN k).testBit 0
 have := a5 e; omega
 have := a1 e; omega
 cases e : (hasN k).testBit 0
 have := a6 (hb.trans e); omega
 have := a2 e; omega
 cases e : (hasN k).testBit 2
 have := a7 e; omega
 have := a3 e; omega
theorem optE_len (c : Bool) (p : By) : (optE c p).length ≤ p.length + 1 := by
 cases c <;> simp [optE, encPart]
theorem encQ_len {k : Nat} {r : Rq} (h : RqOk k r) : (encQ k r).length ≤ 77 := by
 obtain ⟨a1, a2, a3, a4⟩ := h.lens
 have := optE_len ((hasN k).testBit 0) r.name
 have := optE_len ((hasN k).testBit 1) r.key
 have := optE_len ((hasN k).testBit 2) r.last
 have := optE_len ((hasN k).testBit 3) r.value
 simp only [encQ, encW, List.length_cons, List.length_append]
 omega
theorem wd_at {k : Nat} (hk : 1 ≤ k ∧ k ≤ 8) {t : By} (hl : t.length < 4000) : wdE (b8 k :: t) = match decW (hasN k) t with
    | none => 14
    | some p => if 0 < p.2.length then 4 else wireN k p.1.name.length p.1.key.length p.1.last.length p.1.value.length := by
  unfold wdE
  rw [if_neg (by simp only [List.length_cons]; omega)]
  have e : (b8 k).toNat = k := b8_toNat (by omega)
  simp only [e]
  rw [if_neg (by omega)]
theorem wd_back {k : Nat} {r : Rq} (h : RqOk k r) : wdE (encQ k r) = 0 ∧ wdR (encQ k r) = (k, r) := by
 have hl := encQ_len h
 have hd := decW_enc (fits_of h.kind h.fits) []
 rw [List.append_nil] at hd
 have he : wdE (encQ k r) = 0 := by
  unfold encQ at hl ⊢
  rw [wd_at h.kind (by simp only [List.length_cons] at hl; omega), hd]
  simp only [List.length_nil]
  rw [if_neg (by omega)]
  exact h.fits
 have e : (b8 k).toNat = k := b8_toNat (by have := h.kind; omega)
 refine ⟨he, ?_⟩
 unfold wdR
 rw [if_pos he]
 unfold encQ
 simp only [e, hd]
theorem wd_fixed {b : By} (h : wdE b = 0) : RqOk (wdR b).1 (wdR b).2 ∧ b = encQ (wdR b).1 (wdR b).2 := by
 cases b with
 | nil => exact absurd h (by decide)
 | cons x t =>
  have hr : wdR (x :: t) = match decW (hasN x.toNat) t with
    | none => (0, ⟨[], [], [], []⟩)
    | some p => (x.toNat, p.1) := by unfold wdR; rw [if_pos h]
  unfold wdE at h
  split at h
  exact absurd h (by decide)
  simp only at h
  split at h
  exact absurd h (by decide)
  rename_i hk
  cases hd : decW (hasN x.toNat) t with
  | none => rw [hd] at h; simp at h
  | some p =>
   rw [hd] at h hr
   simp only at h hr
   split at h
   exact absurd h (by decide)
   rename_i hz
   rw [hr]
   have hi := (decW_inv hd).1
   rw [List.eq_nil_of_length_eq_zero (by omega : p.2.length = 0), List.append_nil] at hi
   refine ⟨⟨by simp only; omega, h⟩, ?_⟩
   simp only [encQ, b8_back]
   rw [← hi]
theorem wdR_bad {b : By} (h : wdE b ≠ 0) : wdR b = (0, ⟨[], [], [], []⟩) := by unfold wdR; rw [if_neg h]
theorem has_at {w : World} (h : Has w) {k : Nat} (hk : 1 ≤ k ∧ k ≤ 8) : w.cell? ⟨0, k, none⟩ = some (.int .i64 ((hasN k : Nat) : Int)) := by
 have := h k (by simp [hasL]; omega)
 rw [this]
 rcases (by omega : k = 1 ∨ k = 2 ∨ k = 3 ∨ k = 4 ∨ k = 5 ∨ k = 6 ∨ k = 7 ∨ k = 8) with rfl | rfl | rfl | rfl | rfl | rfl | rfl | rfl <;> rfl
theorem bit_yes {h i : Nat} (e : h.testBit i = true) : h / 2 ^ i % 2 = 1 := by
 rw [Nat.testBit_eq_decide_div_mod_eq] at e
 exact of_decide_eq_true e
theorem bit_no {h i : Nat} (e : h.testBit i = false) : h / 2 ^ i % 2 = 0 := by
 rw [Nat.testBit_eq_decide_div_mod_eq] at e
 have := of_decide_eq_false e
 omega
theorem ex_indexV {P : Program} {ρ : Operand → Value} {w : World} {d : Option Tmp} {t X E : TypeId} {n : Nat} {pos : String} {after : Array Edge} {guard : Option (Nat × Bool)} {x y : Operand} {cs : Array Value} {i : Nat} {v : Value} (hX : P.underlying X = some (.array n E)) (hs : (sizeOf E).run P w = .ok 1 w) (hx : ρ x = .agg cs) (hy : ρ y = .int .i64 i) (hi : i < n) (hb : (isAgg E).run P w = .ok false w) (hv : cs[i]? = some v) :
    (execOp ρ ⟨d, .index X x y, t, pos, after, guard⟩).run P w = .ok (.value v) w := by
 have h1 : (0 : Int) ≤ (i : Int) ∧ (i : Int) < (n : Int) := by omega
 simp [execOp, hx, hy, Instr.index, part, Sem.run_bind, run_underlying hX w, asIntOf, hs, h1, hb, hv, hi]
theorem ex_atArr {P : Program} {ρ : Operand → Value} {w : World} {d : Option Tmp} {t X E : TypeId} {n : Nat} {pos : String} {after : Array Edge} {guard : Option (Nat × Bool)} {x y : Operand} {b i : Nat} (hX : P.underlying X = some (.array n E)) (hs : (sizeOf E).run P w = .ok 1 w) (hx : ρ x = .pointer (some ⟨b, 0, none⟩)) (hy : ρ y = .int .i64 i) (hi : i < n) :
    (execOp ρ ⟨d, .indexAddr X x y, t, pos, after, guard⟩).run P w = .ok (.value (.pointer (some ⟨b, i, none⟩))) w := by
 have hadd : (⟨b, 0, none⟩ : Addr).add (i * 1) = ⟨b, i, none⟩ := by rw [Addr.add_mid]; simp
 have hlt : (0 : Int) ≤ (i : Int) ∧ (i : Int) < (n : Int) := by omega
 have hlt' : ¬ ((i : Int) < 0 ∨ (n : Int) ≤ (i : Int)) := by omega
 simp only [Nat.mul_one] at hadd
 simp [execOp, hx, hy, Instr.indexAt, Instr.sureAddr, asIntOf, Sem.run_bind, Sem.run_pure, Result.andThen_ok, run_underlying hX w, hs, hadd, hlt, hi]
theorem ex_shrI {P : Program} {ρ : Operand → Value} {w : World} {d : Option Tmp} {t X Y : TypeId} {x y : Operand} {pos : String} {after : Array Edge} {guard : Option (Nat × Bool)} {m n : Nat} (hx : ρ x = .int .i64 (m : Int)) (hy : ρ y = .int .i64 (n : Int)) (hn : n ≤ 64) : (execOp ρ ⟨d, .binOp .shr X x y Y, t, pos, after, guard⟩).run P w = .ok (.value (.int .i64 ((m / 2 ^ n : Nat) : Int))) w := by
 have e : (eqGuard .shr X x y (.int .i64 (m : Int)) (.int .i64 (n : Int))).run P w = .ok () w := rfl
 have h : (binOp .shr X (.int .i64 (m : Int)) (.int .i64 (n : Int))).run P w = .ok (.int .i64 ((m / 2 ^ n : Nat) : Int)) w := by
  show (Op.shift .shr .i64 (m : Int) .i64 (n : Int)).run P w = _
  unfold Op.shift
  rw [if_neg (by omega)]
  show Result.ok (Value.int .i64 (Int.fdiv (m : Int) (2 ^ (min (n : Int).toNat 64)))) w = _
  rw [Int.toNat_natCast, Nat.min_eq_left hn, Int.fdiv_eq_ediv_of_nonneg _ (show (0 : Int) ≤ 2 ^ n from Int.le_of_lt (Int.pow_pos (by decide)))]
  simp
 simp only [execOp, hx, hy, Sem.run_bind, e, Result.andThen_ok, h, Sem.run_pure]
theorem ex_andOne {P : Program} {ρ : Operand → Value} {w : World} {d : Option Tmp} {t X Y : TypeId} {x y : Operand} {pos : String} {after : Array Edge} {guard : Option (Nat × Bool)} {m : Nat} (hx : ρ x = .int .i64 (m : Int)) (hy : ρ y = .int .i64 1) : (execOp ρ ⟨d, .binOp .and X x y Y, t, pos, after, guard⟩).run P w = .ok (.value (.int .i64 ((m % 2 : Nat) : Int))) w := by
 refine ex_bin hx hy ?_
 rw [run_binInt _ (by simp)]
 show Result.ok (Value.int .i64 (IntKind.i64.wrap ((BitVec.ofInt 64 (m : Int) &&& BitVec.ofInt 64 (1 : Int)).toNat : Int))) w = _
 have h1 : (BitVec.ofInt 64 (m : Int) &&& BitVec.ofInt 64 (1 : Int)).toNat = m % 2 := by
  rw [BitVec.toNat_and, BitVec.ofInt_natCast, show BitVec.ofInt 64 (1 : Int) = 1#64 from rfl, BitVec.toNat_ofNat, show (1#64).toNat = 1 from rfl, Nat.and_one_is_mod]
  omega
 rw [h1, wrap64_in (by omega) (by omega)]
theorem wireCheckOk_spec (F : Fz) (w : World) (v : Value) (k : Nat) (r : Rq) (hh : Has w) (hv : ReqV F v k r.name r.key r.last r.value) (ok : RqOk k r) :
    Calls Tryz.prog 41 #[v] w (Tells w (.int .i64 0)) := by
 have := wireCheck_spec F w v k r.name r.key r.last r.value ok.kind.1 ok.kind.2 hh hv
 rwa [ok.fits] at this
def EncQ (b : By) (F : Fz) (u : Value) : Prop := ∃ x, u = .tuple #[x, .int .i64 0] ∧ Bs F x b
theorem encPre_len {k : Nat} {r : Rq} (ok : RqOk k r) : ∀ i, i ≤ 4 → (encPre (hasN k) r i).length ≤ 33 * i := by
 obtain ⟨a1, a2, a3, a4⟩ := ok.lens
 intro i hi
 have h : ∀ j, j < 4 → (r.part j).length ≤ 32 := fun j hj => by
  rcases (by omega : j = 0 ∨ j = 1 ∨ j = 2 ∨ j = 3) with rfl | rfl | rfl | rfl
  ·exact Nat.le_trans a1 (by omega)
  ·exact Nat.le_trans a2 (by omega)
  ·exact Nat.le_trans a3 (by omega)
  ·exact a4
 clear a1 a2 a3 a4
 induction i with
 | zero => simp [encPre]
 | succ i ih =>
  have := ih (by omega)
  have := h i (by omega)
  have := optE_len ((hasN k).testBit i) (r.part i)
  simp only [encPre, List.length_append]
  omega
theorem wireEncode_spec (F : Fz) (w : World) (v : Value) (k : Nat) (r : Rq) (hs : Sat w F) (hh : Has w) (hv : ReqV F v k r.name r.key r.last r.value) (ok : RqOk k r) :
    Calls Tryz.prog 31 #[v] w (Gives w F (EncQ (encQ k r))) := by
 have hk := ok.kind
 obtain ⟨a1, a2, a3, a4⟩ := ok.lens
 obtain ⟨_, _, _, _, rfl, h0, h1, h2, h3⟩ := hv
 obtain ⟨x0, y0, rfl, _⟩ := h0.shape
 obtain ⟨x1, y1, rfl, _⟩ := h1.shape
 obtain ⟨x2, y2, rfl, _⟩ := h2.shape
 obtain ⟨x3, y3, rfl, _⟩ := h3.shape
 obtain ⟨i5, hi5, hz5, hs5, hb5⟩ := info_parts infoU8
 have S := St.start hs
 go_enter Tryz.func31, Tryz.ntmps31
 refine sk fun K1 hK1 => ?_
 refine stNew S (v := fun n => .pointer (aA n 0)) rfl (ex_box (v := (.agg #[(nI k), (.slice x0 r.name.length y0), (.slice x1 r.key.length y1), (.slice x2 r.last.length y2), (.slice x3 r.value.length y3)])) rfl) (fun n2 w3 S4 => ?_)
 iterate 2 refine dy ?_
 refine wn hK1 ?_
 refine wp_seq_k (fun K5 hK5 => ?_)
 refine sk fun K6 hK6 => ?_
 refine dR S4 0 Tryz.underlying27 (size_27) ?_
 simp only [pq]
 refine stTells (v := (iI 0)) S4 rfl (fn1 (ent_41 _ _)) (wireCheckOk_spec _ _ _ k r (hh.below S4.gr.below) ⟨_, _, _, _, rfl, h0, h1, h2, h3⟩ ok) (fun w7 S8 => ?_)
 refine dy ?_
 refine wn hK6 ?_
 refine sk fun K9 hK9 => ?_
 refine dx ?_
 refine dr bF (ex_neq (m := (0 : Int)) (n := (0 : Int)) (b := false) rfl rfl (bne_eq_false_iff_eq.2 (rfl))) ?_
 simp only [pq]
 refine wn hK9 ?_
 refine wp_cond_false rfl ?_
 refine wp_skip ?_
 refine hK5 _ _ ?_
 refine sk fun K10 hK10 => ?_
 refine df (fa_27_0 _ _) ?_
 refine dl (nagg_3 _) S8 0 ?_
 refine dr (bv (b8 k)) (ex_convert (v := (nI k)) rfl (conv_b8 k _)) ?_
 simp only [pq]
 refine stNew S8 (v := fun n => .slice (aA n 0) 1 1) rfl (ex_lit (ps := #[(0, (bv (b8 k)))]) (cells := #[(bv (b8 k))]) (E := 5) (bmap1 rfl) (fun w => by kernel_rfl)) (fun n11 w12 S13 => ?_)
 refine dy ?_
 refine wn hK10 ?_
 refine wp_seq_k (fun K14 hK14 => ?_)
 refine sk fun K15 hK15 => ?_
 refine df (fa_27_1 _ _) ?_
 refine dl (nagg_25 _) S13 1 ?_
 refine df (fa_27_2 _ _) ?_
 simp only [pq]
 refine dl (nagg_25 _) S13 1 ?_
 refine df (fa_27_3 _ _) ?_
 refine dl (nagg_25 _) S13 1 ?_
 simp only [pq]
 refine df (fa_27_4 _ _) ?_
 refine dl (nagg_25 _) S13 1 ?_
 refine dr (.agg #[(.slice x0 r.name.length y0), (.slice x1 r.key.length y1), (.slice x2 r.last.length y2), (.slice x3 r.value.length y3)]) (ex_build (bmap4 rfl rfl rfl rfl) (by kernel_rfl)) ?_
 simp only [pq]
 refine dx ?_
 refine wn hK15 ?_
 refine wp_block ?_
 have S16 : St w F w12 F [⟨n2, [(nI k), (.slice x0 r.name.length y0), (.slice x1 r.key.length y1), (.slice x2 r.last.length y2), (.slice x3 r.value.length y3)], 27⟩] [ownP 1 ByC ByC.mono 5 w.heap.size (.slice (aA n11 0) 1 1) [b8 k]] := St.blkRow (k := 1) (l := [b8 k]) (el := [[(bv (b8 k))]]) (hR := ByC.mono) S13 rfl ⟨rfl, trivial⟩ (by simp) rfl (by simp) (by unfold maxLen; decide) (S13.blk _ (List.mem_cons_self ..)).2.2
 refine wp_loop_g (fun mm aa w19 => ∃ (i : Nat) (v : Value) (F17 : Fz) (u18 : Nat → Value), mm = 4 - i ∧ u18 = slots aa ∧ aa = ⟨#[(.agg #[(nI k), (.slice x0 r.name.length y0), (.slice x1 r.key.length y1), (.slice x2 r.last.length y2), (.slice x3 r.value.length y3)]), (pP n2 0), Zn, (iI 0), (iI 0), v, (u18 6), (u18 7), (.agg #[(nI k), (.slice x0 r.name.length y0), (.slice x1 r.key.length y1), (.slice x2 r.last.length y2), (.slice x3 r.value.length y3)]), (iI 0), (iI 0), bF, undef, (pP n2 0), (nI k), (bv (b8 k)), (.slice (aA n11 0) 1 1), (pP n2 1), (.slice x0 r.name.length y0), (pP n2 2), (.slice x1 r.key.length y1), (pP n2 3), (.slice x2 r.last.length y2), (pP n2 4), (.slice x3 r.value.length y3), (.agg #[(.slice x0 r.name.length y0), (.slice x1 r.key.length y1), (.slice x2 r.last.length y2), (.slice x3 r.value.length y3)]), (nI i), (u18 27), (u18 28), (u18 29), (u18 30), (u18 31), (u18 32), (u18 33), (u18 34), (u18 35), (u18 36), (u18 37), (u18 38), (u18 39), (u18 40), (u18 41), (u18 42), (u18 43), (u18 44), (u18 45), (u18 46), undef], []⟩ ∧ St w F w19 F17 [⟨n2, [(nI k), (.slice x0 r.name.length y0), (.slice x1 r.key.length y1), (.slice x2 r.last.length y2), (.slice x3 r.value.length y3)], 27⟩] [ownP 1 ByC ByC.mono 5 w.heap.size v (b8 k :: encPre (hasN k) r i)] ∧ Le F F17 ∧ (i ≤ 4)) _ ⟨0, (.slice (aA n11 0) 1 1), F, _, rfl, rfl, rfl, S16, Le.refl _, (by omega)⟩ ?_
 rintro m20 a21 w22 ⟨i, v, F17, u18, rfl, -, rfl, S23, le24, hi4⟩ K25 hK25
 refine sk fun K26 hK26 => ?_
 by_cases hc27 : i < 4
 ·refine lssT ?_
  refine wn hK26 ?_
  refine wp_seq_k (fun K27 hK27 => ?_)
  refine wp_cond_true rfl ?_
  refine wp_skip ?_
  refine hK27 _ _ ?_
  refine wp_seq_k (fun K28 hK28 => ?_)
  refine wp_block ?_
  refine wp_seq_k (fun K29 hK29 => ?_)
  rcases (by omega : i = 0 ∨ i = 1 ∨ i = 2 ∨ i = 3) with h4 | h4 | h4 | h4
  ·by_cases he : (hasN k).testBit i = true
   ·have hx := bit_yes he
    have hpl := encPre_len ok i (by omega)
    refine region_wl ?_
    refine dx ?_
    refine dr (.slice x0 r.name.length y0) (ex_indexV (i := i) Tryz.underlying91 (sizeof_25 _) rfl rfl (by omega) (nagg_25 _) (by rw [h4]; rfl)) ?_
    refine dy ?_
    simp only [pq]
    refine dy ?_
    refine wl_nil (hK29 _ _ ?_)
    refine sk fun K30 hK30 => ?_
    refine df (fa_27_0 _ _) ?_
    refine dl (nagg_3 _) S23 0 ?_
    refine dr (pP 0 k) (ex_atArr (i := k) Tryz.underlying92 (sizeof_3 _) rfl rfl (by omega)) ?_
    simp only [pq]
    refine dr _ (ex_load rfl (load1 (nagg_3 _) (has_at (hh.below S23.gr.below) hk))) ?_
    refine dx ?_
    refine dr (nI ((hasN k) / 2 ^ i)) (ex_shrI (m := (hasN k)) (n := i) rfl rfl (by omega)) ?_
    simp only [pq]
    refine dr (.int .i64 (((((hasN k) / 2 ^ i) % 2) : Nat) : Int)) (ex_andOne (m := ((hasN k) / 2 ^ i)) rfl rfl) ?_
    refine dr bT (ex_eql (m := (((((hasN k) / 2 ^ i) % 2) : Nat) : Int)) (n := (1 : Int)) (b := true) rfl rfl (beq_iff_eq.2 (by rw [hx]; rfl))) ?_
    refine wn hK30 ?_
    refine wp_cond_true rfl ?_
    refine region_wl ?_
    iterate 2 refine dx ?_
    refine dn Tryz.underlying25 ?_
    simp only [pq]
    refine dr (bv (b8 r.name.length)) (ex_convert (v := (nI r.name.length)) rfl (conv_b8 r.name.length _)) ?_
    refine stNew S23 (v := fun n => .slice (aA n 0) 1 1) rfl (ex_lit (ps := #[(0, (bv (b8 r.name.length)))]) (cells := #[(bv (b8 r.name.length))]) (E := 5) (bmap1 rfl) (fun w => by kernel_rfl)) (fun n31 w32 S33 => ?_)
    refine stPush (i := 0) (r := 0) (p := (b8 r.name.length)) (cs := [(bv (b8 r.name.length))]) S33 rfl i5 (.int .u8 0) 1 Tryz.underlying25 hi5 hz5 hs5 hb5 rfl (by decide) rfl rfl rfl rfl rfl (bv_one (b8 r.name.length)) (rfl) (Nat.le_refl _) S33.gr.below.size (by unfold maxLen; simp only [List.length_cons, List.length_append]; omega) (by simp only [List.length_cons, List.length_append]; omega) ?_
    intro v34 w35 S36 hn37
    simp only [pq]
    have S36 := St.drop S36 (.cons _ (List.Sublist.refl _))
    refine dx ?_
    refine stAppendS (r := 0) (u := (.slice x0 r.name.length y0)) S36 rfl i5 (.int .u8 0) 1 Tryz.underlying25 hi5 hz5 hs5 hb5 rfl (by decide) rfl rfl rfl (Sl.toW (Bs.sl (h0.mono le24)) (S36).sat) ByC.one (Nat.le_refl _) S36.gr.below.size (by unfold maxLen; simp only [List.length_cons, List.length_append, List.length_nil]; omega) (by simp only [List.length_cons, List.length_append, List.length_nil]; omega) ?_
    intro v38 w39 S40 hn41
    refine dy ?_
    refine wl_nil (hK28 _ _ ?_)
    rw [show (((b8 k :: encPre (hasN k) r i) ++ [(b8 r.name.length)]) ++ r.name) = b8 k :: encPre (hasN k) r (i + 1) from by rw [encPre_yes r he, h4]; simp [Rq.part]] at S40
    refine region_wl ?_
    refine dAdd (i + 1) ?_
    refine dx ?_
    simp only [pq]
    refine wl_nil ?_
    exact hK25 _ _ _ (by omega) ⟨(i + 1), v38, F17, _, rfl, rfl, rfl, S40, le24, (by omega)⟩
   ·have he : (hasN k).testBit i = false := by simpa using he
    have hx := bit_no he
    have hpl := encPre_len ok i (by omega)
    refine region_wl ?_
    refine dx ?_
    refine dr (.slice x0 r.name.length y0) (ex_indexV (i := i) Tryz.underlying91 (sizeof_25 _) rfl rfl (by omega) (nagg_25 _) (by rw [h4]; rfl)) ?_
    refine dy ?_
    simp only [pq]
    refine dy ?_
    refine wl_nil (hK29 _ _ ?_)
    refine sk fun K42 hK42 => ?_
    refine df (fa_27_0 _ _) ?_
    refine dl (nagg_3 _) S23 0 ?_
    refine dr (pP 0 k) (ex_atArr (i := k) Tryz.underlying92 (sizeof_3 _) rfl rfl (by omega)) ?_
    simp only [pq]
    refine dr _ (ex_load rfl (load1 (nagg_3 _) (has_at (hh.below S23.gr.below) hk))) ?_
    refine dx ?_
    refine dr (nI ((hasN k) / 2 ^ i)) (ex_shrI (m := (hasN k)) (n := i) rfl rfl (by omega)) ?_
    simp only [pq]
    refine dr (.int .i64 (((((hasN k) / 2 ^ i) % 2) : Nat) : Int)) (ex_andOne (m := ((hasN k) / 2 ^ i)) rfl rfl) ?_
    refine dr bF (ex_eql (m := (((((hasN k) / 2 ^ i) % 2) : Nat) : Int)) (n := (1 : Int)) (b := false) rfl rfl (beq_eq_false_iff_ne.2 (by rw [hx]; decide))) ?_
    refine wn hK42 ?_
    refine wp_cond_false rfl ?_
    refine wp_skip ?_
    refine hK28 _ _ ?_
    rw [← encPre_no r he] at S23
    refine region_wl ?_
    refine dAdd (i + 1) ?_
    refine dx ?_
    simp only [pq]
    refine wl_nil ?_
    exact hK25 _ _ _ (by omega) ⟨(i + 1), v, F17, _, rfl, rfl, rfl, S23, le24, (by omega)⟩
  ·by_cases he : (hasN k).testBit i = true
   ·have hx := bit_yes he
    have hpl := encPre_len ok i (by omega)
    refine region_wl ?_
    refine dx ?_
    refine dr (.slice x1 r.key.length y1) (ex_indexV (i := i) Tryz.underlying91 (sizeof_25 _) rfl rfl (by omega) (nagg_25 _) (by rw [h4]; rfl)) ?_
    refine dy ?_
    simp only [pq]
    refine dy ?_
    refine wl_nil (hK29 _ _ ?_)
    refine sk fun K43 hK43 => ?_
    refine df (fa_27_0 _ _) ?_
    refine dl (nagg_3 _) S23 0 ?_
    refine dr (pP 0 k) (ex_atArr (i := k) Tryz.underlying92 (sizeof_3 _) rfl rfl (by omega)) ?_
    simp only [pq]
    refine dr _ (ex_load rfl (load1 (nagg_3 _) (has_at (hh.below S23.gr.below) hk))) ?_
    refine dx ?_
    refine dr (nI ((hasN k) / 2 ^ i)) (ex_shrI (m := (hasN k)) (n := i) rfl rfl (by omega)) ?_
    simp only [pq]
    refine dr (.int .i64 (((((hasN k) / 2 ^ i) % 2) : Nat) : Int)) (ex_andOne (m := ((hasN k) / 2 ^ i)) rfl rfl) ?_
    refine dr bT (ex_eql (m := (((((hasN k) / 2 ^ i) % 2) : Nat) : Int)) (n := (1 : Int)) (b := true) rfl rfl (beq_iff_eq.2 (by rw [hx]; rfl))) ?_
    refine wn hK43 ?_
    refine wp_cond_true rfl ?_
    refine region_wl ?_
    iterate 2 refine dx ?_
    refine dn Tryz.underlying25 ?_
    simp only [pq]
    refine dr (bv (b8 r.key.length)) (ex_convert (v := (nI r.key.length)) rfl (conv_b8 r.key.length _)) ?_
    refine stNew S23 (v := fun n => .slice (aA n 0) 1 1) rfl (ex_lit (ps := #[(0, (bv (b8 r.key.length)))]) (cells := #[(bv (b8 r.key.length))]) (E := 5) (bmap1 rfl) (fun w => by kernel_rfl)) (fun n44 w45 S46 => ?_)
    refine stPush (i := 0) (r := 0) (p := (b8 r.key.length)) (cs := [(bv (b8 r.key.length))]) S46 rfl i5 (.int .u8 0) 1 Tryz.underlying25 hi5 hz5 hs5 hb5 rfl (by decide) rfl rfl rfl rfl rfl (bv_one (b8 r.key.length)) (rfl) (Nat.le_refl _) S46.gr.below.size (by unfold maxLen; simp only [List.length_cons, List.length_append]; omega) (by simp only [List.length_cons, List.length_append]; omega) ?_
    intro v47 w48 S49 hn50
    simp only [pq]
    have S49 := St.drop S49 (.cons _ (List.Sublist.refl _))
    refine dx ?_
    refine stAppendS (r := 0) (u := (.slice x1 r.key.length y1)) S49 rfl i5 (.int .u8 0) 1 Tryz.underlying25 hi5 hz5 hs5 hb5 rfl (by decide) rfl rfl rfl (Sl.toW (Bs.sl (h1.mono le24)) (S49).sat) ByC.one (Nat.le_refl _) S49.gr.below.size (by unfold maxLen; simp only [List.length_cons, List.length_append, List.length_nil]; omega) (by simp only [List.length_cons, List.length_append, List.length_nil]; omega) ?_
    intro v51 w52 S53 hn54
    refine dy ?_
    refine wl_nil (hK28 _ _ ?_)
    rw [show (((b8 k :: encPre (hasN k) r i) ++ [(b8 r.key.length)]) ++ r.key) = b8 k :: encPre (hasN k) r (i + 1) from by rw [encPre_yes r he, h4]; simp [Rq.part]] at S53
    refine region_wl ?_
    refine dAdd (i + 1) ?_
    refine dx ?_
    simp only [pq]
    refine wl_nil ?_
    exact hK25 _ _ _ (by omega) ⟨(i + 1), v51, F17, _, rfl, rfl, rfl, S53, le24, (by omega)⟩
   ·have he : (hasN k).testBit i = false := by simpa using he
    have hx := bit_no he
    have hpl := encPre_len ok i (by omega)
    refine region_wl ?_
    refine dx ?_
    refine dr (.slice x1 r.key.length y1) (ex_indexV (i := i) Tryz.underlying91 (sizeof_25 _) rfl rfl (by omega) (nagg_25 _) (by rw [h4]; rfl)) ?_
    refine dy ?_
    simp only [pq]
    refine dy ?_
    refine wl_nil (hK29 _ _ ?_)
    refine sk fun K55 hK55 => ?_
    refine df (fa_27_0 _ _) ?_
    refine dl (nagg_3 _) S23 0 ?_
    refine dr (pP 0 k) (ex_atArr (i := k) Tryz.underlying92 (sizeof_3 _) rfl rfl (by omega)) ?_
    simp only [pq]
    refine dr _ (ex_load rfl (load1 (nagg_3 _) (has_at (hh.below S23.gr.below) hk))) ?_
    refine dx ?_
    refine dr (nI ((hasN k) / 2 ^ i)) (ex_shrI (m := (hasN k)) (n := i) rfl rfl (by omega)) ?_
    simp only [pq]
    refine dr (.int .i64 (((((hasN k) / 2 ^ i) % 2) : Nat) : Int)) (ex_andOne (m := ((hasN k) / 2 ^ i)) rfl rfl) ?_
    refine dr bF (ex_eql (m := (((((hasN k) / 2 ^ i) % 2) : Nat) : Int)) (n := (1 : Int)) (b := false) rfl rfl (beq_eq_false_iff_ne.2 (by rw [hx]; decide))) ?_
    refine wn hK55 ?_
    refine wp_cond_false rfl ?_
    refine wp_skip ?_
    refine hK28 _ _ ?_
    rw [← encPre_no r he] at S23
    refine region_wl ?_
    refine dAdd (i + 1) ?_
    refine dx ?_
    simp only [pq]
    refine wl_nil ?_
    exact hK25 _ _ _ (by omega) ⟨(i + 1), v, F17, _, rfl, rfl, rfl, S23, le24, (by omega)⟩
  ·by_cases he : (hasN k).testBit i = true
   ·have hx := bit_yes he
    have hpl := encPre_len ok i (by omega)
    refine region_wl ?_
    refine dx ?_
    refine dr (.slice x2 r.last.length y2) (ex_indexV (i := i) Tryz.underlying91 (sizeof_25 _) rfl rfl (by omega) (nagg_25 _) (by rw [h4]; rfl)) ?_
    refine dy ?_
    simp only [pq]
    refine dy ?_
    refine wl_nil (hK29 _ _ ?_)
    refine sk fun K56 hK56 => ?_
    refine df (fa_27_0 _ _) ?_
    refine dl (nagg_3 _) S23 0 ?_
    refine dr (pP 0 k) (ex_atArr (i := k) Tryz.underlying92 (sizeof_3 _) rfl rfl (by omega)) ?_
    simp only [pq]
    refine dr _ (ex_load rfl (load1 (nagg_3 _) (has_at (hh.below S23.gr.below) hk))) ?_
    refine dx ?_
    refine dr (nI ((hasN k) / 2 ^ i)) (ex_shrI (m := (hasN k)) (n := i) rfl rfl (by omega)) ?_
    simp only [pq]
    refine dr (.int .i64 (((((hasN k) / 2 ^ i) % 2) : Nat) : Int)) (ex_andOne (m := ((hasN k) / 2 ^ i)) rfl rfl) ?_
    refine dr bT (ex_eql (m := (((((hasN k) / 2 ^ i) % 2) : Nat) : Int)) (n := (1 : Int)) (b := true) rfl rfl (beq_iff_eq.2 (by rw [hx]; rfl))) ?_
    refine wn hK56 ?_
    refine wp_cond_true rfl ?_
    refine region_wl ?_
    iterate 2 refine dx ?_
    refine dn Tryz.underlying25 ?_
    simp only [pq]
    refine dr (bv (b8 r.last.length)) (ex_convert (v := (nI r.last.length)) rfl (conv_b8 r.last.length _)) ?_
    refine stNew S23 (v := fun n => .slice (aA n 0) 1 1) rfl (ex_lit (ps := #[(0, (bv (b8 r.last.length)))]) (cells := #[(bv (b8 r.last.length))]) (E := 5) (bmap1 rfl) (fun w => by kernel_rfl)) (fun n57 w58 S59 => ?_)
    refine stPush (i := 0) (r := 0) (p := (b8 r.last.length)) (cs := [(bv (b8 r.last.length))]) S59 rfl i5 (.int .u8 0) 1 Tryz.underlying25 hi5 hz5 hs5 hb5 rfl (by decide) rfl rfl rfl rfl rfl (bv_one (b8 r.last.length)) (rfl) (Nat.le_refl _) S59.gr.below.size (by unfold maxLen; simp only [List.length_cons, List.length_append]; omega) (by simp only [List.length_cons, List.length_append]; omega) ?_
    intro v60 w61 S62 hn63
    simp only [pq]
    have S62 := St.drop S62 (.cons _ (List.Sublist.refl _))
    refine dx ?_
    refine stAppendS (r := 0) (u := (.slice x2 r.last.length y2)) S62 rfl i5 (.int .u8 0) 1 Tryz.underlying25 hi5 hz5 hs5 hb5 rfl (by decide) rfl rfl rfl (Sl.toW (Bs.sl (h2.mono le24)) (S62).sat) ByC.one (Nat.le_refl _) S62.gr.below.size (by unfold maxLen; simp only [List.length_cons, List.length_append, List.length_nil]; omega) (by simp only [List.length_cons, List.length_append, List.length_nil]; omega) ?_
    intro v64 w65 S66 hn67
    refine dy ?_
    refine wl_nil (hK28 _ _ ?_)
    rw [show (((b8 k :: encPre (hasN k) r i) ++ [(b8 r.last.length)]) ++ r.last) = b8 k :: encPre (hasN k) r (i + 1) from by rw [encPre_yes r he, h4]; simp [Rq.part]] at S66
    refine region_wl ?_
    refine dAdd (i + 1) ?_
    refine dx ?_
    simp only [pq]
    refine wl_nil ?_
    exact hK25 _ _ _ (by omega) ⟨(i + 1), v64, F17, _, rfl, rfl, rfl, S66, le24, (by omega)⟩
   ·have he : (hasN k).testBit i = false := by simpa using he
    have hx := bit_no he
    have hpl := encPre_len ok i (by omega)
    refine region_wl ?_
    refine dx ?_
    refine dr (.slice x2 r.last.length y2) (ex_indexV (i := i) Tryz.underlying91 (sizeof_25 _) rfl rfl (by omega) (nagg_25 _) (by rw [h4]; rfl)) ?_
    refine dy ?_
    simp only [pq]
    refine dy ?_
    refine wl_nil (hK29 _ _ ?_)
    refine sk fun K68 hK68 => ?_
    refine df (fa_27_0 _ _) ?_
    refine dl (nagg_3 _) S23 0 ?_
    refine dr (pP 0 k) (ex_atArr (i := k) Tryz.underlying92 (sizeof_3 _) rfl rfl (by omega)) ?_
    simp only [pq]
    refine dr _ (ex_load rfl (load1 (nagg_3 _) (has_at (hh.below S23.gr.below) hk))) ?_
    refine dx ?_
    refine dr (nI ((hasN k) / 2 ^ i)) (ex_shrI (m := (hasN k)) (n := i) rfl rfl (by omega)) ?_
    simp only [pq]
    refine dr (.int .i64 (((((hasN k) / 2 ^ i) % 2) : Nat) : Int)) (ex_andOne (m := ((hasN k) / 2 ^ i)) rfl rfl) ?_
    refine dr bF (ex_eql (m := (((((hasN k) / 2 ^ i) % 2) : Nat) : Int)) (n := (1 : Int)) (b := false) rfl rfl (beq_eq_false_iff_ne.2 (by rw [hx]; decide))) ?_
    refine wn hK68 ?_
    refine wp_cond_false rfl ?_
    refine wp_skip ?_
    refine hK28 _ _ ?_
    rw [← encPre_no r he] at S23
    refine region_wl ?_
    refine dAdd (i + 1) ?_
    refine dx ?_
    simp only [pq]
    refine wl_nil ?_
    exact hK25 _ _ _ (by omega) ⟨(i + 1), v, F17, _, rfl, rfl, rfl, S23, le24, (by omega)⟩
  ·by_cases he : (hasN k).testBit i = true
   ·have hx := bit_yes he
    have hpl := encPre_len ok i (by omega)
    refine region_wl ?_
    refine dx ?_
    refine dr (.slice x3 r.value.length y3) (ex_indexV (i := i) Tryz.underlying91 (sizeof_25 _) rfl rfl (by omega) (nagg_25 _) (by rw [h4]; rfl)) ?_
    refine dy ?_
    simp only [pq]
    refine dy ?_
    refine wl_nil (hK29 _ _ ?_)
    refine sk fun K69 hK69 => ?_
    refine df (fa_27_0 _ _) ?_
    refine dl (nagg_3 _) S23 0 ?_
    refine dr (pP 0 k) (ex_atArr (i := k) Tryz.underlying92 (sizeof_3 _) rfl rfl (by omega)) ?_
    simp only [pq]
    refine dr _ (ex_load rfl (load1 (nagg_3 _) (has_at (hh.below S23.gr.below) hk))) ?_
    refine dx ?_
    refine dr (nI ((hasN k) / 2 ^ i)) (ex_shrI (m := (hasN k)) (n := i) rfl rfl (by omega)) ?_
    simp only [pq]
    refine dr (.int .i64 (((((hasN k) / 2 ^ i) % 2) : Nat) : Int)) (ex_andOne (m := ((hasN k) / 2 ^ i)) rfl rfl) ?_
    refine dr bT (ex_eql (m := (((((hasN k) / 2 ^ i) % 2) : Nat) : Int)) (n := (1 : Int)) (b := true) rfl rfl (beq_iff_eq.2 (by rw [hx]; rfl))) ?_
    refine wn hK69 ?_
    refine wp_cond_true rfl ?_
    refine region_wl ?_
    iterate 2 refine dx ?_
    refine dn Tryz.underlying25 ?_
    simp only [pq]
    refine dr (bv (b8 r.value.length)) (ex_convert (v := (nI r.value.length)) rfl (conv_b8 r.value.length _)) ?_
    refine stNew S23 (v := fun n => .slice (aA n 0) 1 1) rfl (ex_lit (ps := #[(0, (bv (b8 r.value.length)))]) (cells := #[(bv (b8 r.value.length))]) (E := 5) (bmap1 rfl) (fun w => by kernel_rfl)) (fun n70 w71 S72 => ?_)
    refine stPush (i := 0) (r := 0) (p := (b8 r.value.length)) (cs := [(bv (b8 r.value.length))]) S72 rfl i5 (.int .u8 0) 1 Tryz.underlying25 hi5 hz5 hs5 hb5 rfl (by decide) rfl rfl rfl rfl rfl (bv_one (b8 r.value.length)) (rfl) (Nat.le_refl _) S72.gr.below.size (by unfold maxLen; simp only [List.length_cons, List.length_append]; omega) (by simp only [List.length_cons, List.length_append]; omega) ?_
    intro v73 w74 S75 hn76
    simp only [pq]
    have S75 := St.drop S75 (.cons _ (List.Sublist.refl _))
    refine dx ?_
    refine stAppendS (r := 0) (u := (.slice x3 r.value.length y3)) S75 rfl i5 (.int .u8 0) 1 Tryz.underlying25 hi5 hz5 hs5 hb5 rfl (by decide) rfl rfl rfl (Sl.toW (Bs.sl (h3.mono le24)) (S75).sat) ByC.one (Nat.le_refl _) S75.gr.below.size (by unfold maxLen; simp only [List.length_cons, List.length_append, List.length_nil]; omega) (by simp only [List.length_cons, List.length_append, List.length_nil]; omega) ?_
    intro v77 w78 S79 hn80
    refine dy ?_
    refine wl_nil (hK28 _ _ ?_)
    rw [show (((b8 k :: encPre (hasN k) r i) ++ [(b8 r.value.length)]) ++ r.value) = b8 k :: encPre (hasN k) r (i + 1) from by rw [encPre_yes r he, h4]; simp [Rq.part]] at S79
    refine region_wl ?_
    refine dAdd (i + 1) ?_
    refine dx ?_
    simp only [pq]
    refine wl_nil ?_
    exact hK25 _ _ _ (by omega) ⟨(i + 1), v77, F17, _, rfl, rfl, rfl, S79, le24, (by omega)⟩
   ·have he : (hasN k).testBit i = false := by simpa using he
    have hx := bit_no he
    have hpl := encPre_len ok i (by omega)
    refine region_wl ?_
    refine dx ?_
    refine dr (.slice x3 r.value.length y3) (ex_indexV (i := i) Tryz.underlying91 (sizeof_25 _) rfl rfl (by omega) (nagg_25 _) (by rw [h4]; rfl)) ?_
    refine dy ?_
    simp only [pq]
    refine dy ?_
    refine wl_nil (hK29 _ _ ?_)
    refine sk fun K81 hK81 => ?_
    refine df (fa_27_0 _ _) ?_
    refine dl (nagg_3 _) S23 0 ?_
    refine dr (pP 0 k) (ex_atArr (i := k) Tryz.underlying92 (sizeof_3 _) rfl rfl (by omega)) ?_
    simp only [pq]
    refine dr _ (ex_load rfl (load1 (nagg_3 _) (has_at (hh.below S23.gr.below) hk))) ?_
    refine dx ?_
    refine dr (nI ((hasN k) / 2 ^ i)) (ex_shrI (m := (hasN k)) (n := i) rfl rfl (by omega)) ?_
    simp only [pq]
    refine dr (.int .i64 (((((hasN k) / 2 ^ i) % 2) : Nat) : Int)) (ex_andOne (m := ((hasN k) / 2 ^ i)) rfl rfl) ?_
    refine dr bF (ex_eql (m := (((((hasN k) / 2 ^ i) % 2) : Nat) : Int)) (n := (1 : Int)) (b := false) rfl rfl (beq_eq_false_iff_ne.2 (by rw [hx]; decide))) ?_
    refine wn hK81 ?_
    refine wp_cond_false rfl ?_
    refine wp_skip ?_
    refine hK28 _ _ ?_
    rw [← encPre_no r he] at S23
    refine region_wl ?_
    refine dAdd (i + 1) ?_
    refine dx ?_
    simp only [pq]
    refine wl_nil ?_
    exact hK25 _ _ _ (by omega) ⟨(i + 1), v, F17, _, rfl, rfl, rfl, S23, le24, (by omega)⟩
 ·refine lssF ?_
  refine wn hK26 ?_
  refine wp_seq_k (fun K82 hK82 => ?_)
  refine wp_cond_false rfl ?_
  refine wp_exit ?_
  refine hK14 _ _ ?_
  refine sk fun K83 hK83 => ?_
  refine dx ?_
  iterate 2 refine dy ?_
  simp only [pq]
  refine wn hK83 ?_
  refine wp_ret ?_
  (try simp only [Exit.then, Exit.inBlock, ↓reduceIte, Nat.reduceEqDiff])
  refine bR (res_tt rfl (gD rfl) (gD rfl)) ?_
  ·have hi5 : i = 4 := by omega
   subst hi5
   rw [encPre_all] at S23
   obtain ⟨F84, S85, le86, hv87⟩ := St.freeze S23 (i := 0) rfl (Nat.le_refl _)
   have hv87 : Bys _ v (b8 k :: encW (hasN k) r) := hv87
   exact ⟨_, _, rfl, S85.gr, _, rfl, bs_of_sl hv87⟩
theorem nagg_150 (w : World) : (isAgg 150).run Tryz.prog w = .ok false w := by kernel_rfl
theorem sizeof_150 (w : World) : (sizeOf 150).run Tryz.prog w = .ok 1 w := by kernel_rfl
theorem wd_eq {b : By} {c : UInt8} (h : b[0]? = some c) (hl : ¬ 4000 < b.length) : wdE b = if c.toNat < 1 ∨ 8 < c.toNat then 5 else match decW (hasN c.toNat) (b.drop 1) with
    | none => 14
    | some p => if 0 < p.2.length then 4 else wireN c.toNat p.1.name.length p.1.key.length p.1.last.length p.1.value.length := by
  cases b with
  | nil => cases h
  | cons y t =>
    simp only [List.getElem?_cons_zero, Option.some.injEq] at h
    subst h
    unfold wdE
    rw [if_neg hl]
    rfl
theorem wd_rq {b : By} {c : UInt8} {p : Rq × By} (h : b[0]? = some c) (he : wdE b = 0) (hd : decW (hasN c.toNat) (b.drop 1) = some p) : wdR b = (c.toNat, p.1) := by
 cases b with
 | nil => cases h
 | cons y t =>
  simp only [List.getElem?_cons_zero, Option.some.injEq] at h
  subst h
  simp only [List.drop_succ_cons, List.drop_zero] at hd
  unfold wdR
  rw [if_pos he]
  simp only [hd]
def DecQ (b : By) (F : Fz) (u : Value) : Prop := ∃ x, u = .tuple #[x, .int .i64 (wdE b)] ∧ ReqV F x ((wdR b).1 : Nat) (wdR b).2.name (wdR b).2.key (wdR b).2.last (wdR b).2.value
theorem decQ_bad {b : By} {F : Fz} {e : Int} (he : wdE b = e) (h0 : e ≠ 0) : DecQ b F (.tuple #[.agg #[.int .i64 0, .slice none 0 0, .slice none 0 0, .slice none 0 0, .slice none 0 0], .int .i64 e]) := by
 unfold DecQ
 rw [wdR_bad (by rw [he]; exact h0), he]
 exact ⟨_, rfl, _, _, _, _, rfl, Bs.nil _, Bs.nil _, Bs.nil _, Bs.nil _⟩
theorem wireDecode_spec (F : Fz) (w : World) (v : Value) (b : By) (hs : Sat w F) (hh : Has w) (hb : Bs F v b) :
    Calls Tryz.prog 77 #[v] w (Gives w F (DecQ b)) := by
 obtain ⟨x, y, rfl, hc1', hc2'⟩ := hb.shape
 unfold maxLen at hc2'
 have S := St.start hs
 go_enter Tryz.func77, Tryz.ntmps77
 refine sk fun K1 hK1 => ?_
 refine sA S (zero_27 _) fun n2 w3 S4 => ?_
 refine dy ?_
 refine wn hK1 ?_
 refine wp_seq_k (fun K5 hK5 => ?_)
 refine sk fun K6 hK6 => ?_
 refine dx ?_
 refine dn Tryz.underlying25 ?_
 simp only [pq]
 by_cases hc12 : 4000 < b.length
 ·refine gtrT ?_
  refine wn hK6 ?_
  refine wp_cond_true rfl ?_
  refine wp_seq_k (fun K7 hK7 => ?_)
  have hE : wdE b = 1 := by unfold wdE; rw [if_pos (by omega)]
  refine region_wl ?_
  refine dr (.agg #[(iI 0), Zn, Zn, Zn, Zn]) (ex_build (bmap0) (by kernel_rfl)) ?_
  refine sW 0 S4 (size_27) fun w8 S9 => ?_
  simp only [pq]
  refine dy ?_
  refine wl_nil (hK7 _ _ ?_)
  refine wp_ret ?_
  (try simp only [Exit.then, Exit.inBlock, ↓reduceIte, Nat.reduceEqDiff])
  refine bR (res_ct rfl ⟨_, rfl, lR S9 0 Tryz.underlying27 (size_27)⟩ (gD rfl)) ?_
  ·exact ⟨_, _, rfl, S9.gr, decQ_bad hE (by decide)⟩
 ·refine gtrF ?_
  refine wn hK6 ?_
  refine wp_cond_false rfl ?_
  refine wp_skip ?_
  refine hK5 _ _ ?_
  refine wp_seq_k (fun K10 hK10 => ?_)
  refine wp_seq_k (fun K11 hK11 => ?_)
  have hl4 : ¬ 4000 < b.length := by omega
  refine region_wl ?_
  refine dx ?_
  refine dn Tryz.underlying25 ?_
  simp only [pq]
  by_cases hc16 : b.length = 0
  ·refine eqlT ?_
   refine wl_nil (hK11 _ _ ?_)
   refine wp_cond_true rfl ?_
   refine wp_seq_k (fun K12 hK12 => ?_)
   have hE : wdE b = 14 := by rw [List.eq_nil_of_length_eq_zero (show b.length = 0 by omega)]; rfl
   refine region_wl ?_
   refine dr (.agg #[(iI 0), Zn, Zn, Zn, Zn]) (ex_build (bmap0) (by kernel_rfl)) ?_
   refine sW 0 S4 (size_27) fun w13 S14 => ?_
   simp only [pq]
   refine dy ?_
   refine wl_nil (hK12 _ _ ?_)
   refine wp_ret ?_
   (try simp only [Exit.then, Exit.inBlock, ↓reduceIte, Nat.reduceEqDiff])
   refine bR (res_ct rfl ⟨_, rfl, lR S14 0 Tryz.underlying27 (size_27)⟩ (gD rfl)) ?_
   ·exact ⟨_, _, rfl, S14.gr, decQ_bad hE (by decide)⟩
  ·refine eqlF ?_
   refine wl_nil (hK11 _ _ ?_)
   refine wp_cond_false rfl ?_
   refine wp_skip ?_
   refine hK10 _ _ ?_
   refine wp_seq_k (fun K15 hK15 => ?_)
   obtain ⟨c0, hc0⟩ : ∃ c, b[0]? = some c := ⟨b[0], List.getElem?_eq_getElem (by omega)⟩
   have hb8 := UInt8.toNat_lt c0
   obtain ⟨b16, o17, ha18, c19⟩ := Bs.get hb hc0
   refine region_wl ?_
   refine dx ?_
   refine dr (pP b16 (o17 + 0 * 1)) (ex_at (i := 0) (sz := 1) Tryz.underlying25 (sizeof_5 _) rfl ha18 rfl (by omega) rfl) ?_
   refine dr _ (ex_load rfl (load1 (nagg_5 _) (St.fz S4 c19))) ?_
   simp only [pq]
   refine dr (nI c0.toNat) (ex_convert (v := (bv c0)) rfl (conv_int c0 _)) ?_
   refine dr (.agg #[(nI c0.toNat), Zn, Zn, Zn, Zn]) (ex_build (bmap1 rfl) (by kernel_rfl)) ?_
   refine sA S4 (zero_27 _) fun n20 w21 S22 => ?_
   simp only [pq]
   refine sW 0 S22 (size_27) fun w23 S24 => ?_
   refine wl_nil (hK15 _ _ ?_)
   refine wp_seq_k (fun K25 hK25 => ?_)
   refine sk fun K26 hK26 => ?_
   refine df (fa_27_0 _ _) ?_
   refine dl (nagg_3 _) S24 0 ?_
   simp only [pq]
   by_cases hc25 : c0.toNat < 1
   ·refine lssT ?_
    refine dx ?_
    refine nO ?_
    simp only [pq]
    iterate 2 refine nO ?_
    refine dp ?_
    simp only [pq]
    refine wn hK26 ?_
    refine wp_cond_true rfl ?_
    refine wp_seq_k (fun K27 hK27 => ?_)
    have hE : wdE b = 5 := by rw [wd_eq hc0 hl4, if_pos (by omega)]
    refine region_wl ?_
    refine dr (.agg #[(iI 0), Zn, Zn, Zn, Zn]) (ex_build (bmap0) (by kernel_rfl)) ?_
    refine sW 1 S24 (size_27) fun w28 S29 => ?_
    refine dy ?_
    simp only [pq]
    refine wl_nil (hK27 _ _ ?_)
    refine wp_ret ?_
    (try simp only [Exit.then, Exit.inBlock, ↓reduceIte, Nat.reduceEqDiff])
    refine bR (res_ct rfl ⟨_, rfl, lR S29 1 Tryz.underlying27 (size_27)⟩ (gD rfl)) ?_
    ·exact ⟨_, _, rfl, S29.gr, decQ_bad hE (by decide)⟩
   ·refine lssF ?_
    refine dx ?_
    refine df (fa_27_0 _ _) ?_
    simp only [pq]
    refine dl (nagg_3 _) S24 0 ?_
    simp only [pq]
    by_cases hc29 : 8 < c0.toNat
    ·refine gtrT ?_
     refine dp ?_
     refine wn hK26 ?_
     refine wp_cond_true rfl ?_
     refine wp_seq_k (fun K30 hK30 => ?_)
     have hE : wdE b = 5 := by rw [wd_eq hc0 hl4, if_pos (by omega)]
     refine region_wl ?_
     refine dr (.agg #[(iI 0), Zn, Zn, Zn, Zn]) (ex_build (bmap0) (by kernel_rfl)) ?_
     simp only [pq]
     refine sW 1 S24 (size_27) fun w31 S32 => ?_
     refine dy ?_
     refine wl_nil (hK30 _ _ ?_)
     refine wp_ret ?_
     (try simp only [Exit.then, Exit.inBlock, ↓reduceIte, Nat.reduceEqDiff])
     refine bR (res_ct rfl ⟨_, rfl, lR S32 1 Tryz.underlying27 (size_27)⟩ (gD rfl)) ?_
     ·exact ⟨_, _, rfl, S32.gr, decQ_bad hE (by decide)⟩
    ·refine gtrF ?_
     refine dp ?_
     simp only [pq]
     refine wn hK26 ?_
     refine wp_cond_false rfl ?_
     refine wp_skip ?_
     refine hK25 _ _ ?_
     refine wp_seq_k (fun K33 hK33 => ?_)
     have hk : 1 ≤ c0.toNat ∧ c0.toNat ≤ 8 := by omega
     have hwd := wd_eq hc0 hl4
     rw [if_neg (by omega)] at hwd
     refine region_wl ?_
     refine dx ?_
     simp only [pq]
     have r34 : Bs _ (.slice (if y = 1 then x else x.map (·.add (1 * 1))) (b.length - 1) (y - 1)) (b.drop 1) := Bs.rest hb (by omega)
     refine dr (.slice (if y = 1 then x else x.map (·.add (1 * 1))) (b.length - 1) (y - 1)) (ex_slice (l := 1) (h := b.length) (sz := 1) Tryz.underlying25 rfl (sizeof_5 _) (.inr ⟨_, rfl, rfl⟩) (.inl ⟨rfl, rfl⟩) (by omega) (by omega) (rfl)) ?_
     refine dy ?_
     refine wl_nil (hK33 _ _ ?_)
     refine wp_seq_k (fun K35 hK35 => ?_)
     refine sk fun K36 hK36 => ?_
     refine df (fa_27_1 _ _) ?_
     refine df (fa_27_2 _ _) ?_
     refine df (fa_27_3 _ _) ?_
     simp only [pq]
     refine df (fa_27_4 _ _) ?_
     refine dr (.agg #[(pP n20 1), (pP n20 2), (pP n20 3), (pP n20 4)]) (ex_build (bmap4 rfl rfl rfl rfl) (by kernel_rfl)) ?_
     refine dx ?_
     simp only [pq]
     refine wn hK36 ?_
     refine wp_block ?_
     refine wp_loop_g (fun mm aa w39 => ∃ (i : Nat) (r : Rq) (a0 : Option Addr) (e0 : Nat) (a1 : Option Addr) (e1 : Nat) (a2 : Option Addr) (e2 : Nat) (a3 : Option Addr) (e3 : Nat) (ra : Option Addr) (rn : Nat) (rc : Nat) (rest : By) (F37 : Fz) (u38 : Nat → Value), mm = 4 - i ∧ u38 = slots aa ∧ aa = ⟨#[(.slice x b.length y), undef, (pP n2 0), (u38 3), (pP n20 0), (.slice ra rn rc), (u38 6), (u38 7), (u38 8), undef, (.slice x b.length y), (nI b.length), bF, undef, (.slice x b.length y), (nI b.length), bF, undef, (.slice x b.length y), (pP b16 (o17 + 0 * 1)), (bv c0), (nI c0.toNat), (.agg #[(nI c0.toNat), Zn, Zn, Zn, Zn]), (pP n20 0), (nI c0.toNat), bF, bF, (pP n20 0), (nI c0.toNat), bF, bF, undef, (.slice x b.length y), (.slice (if y = 1 then x else x.map (·.add (1 * 1))) (b.length - 1) (y - 1)), (pP n20 1), (pP n20 2), (pP n20 3), (pP n20 4), (.agg #[(pP n20 1), (pP n20 2), (pP n20 3), (pP n20 4)]), (nI i), (u38 40), (u38 41), (u38 42), (u38 43), (u38 44), (u38 45), (u38 46), (u38 47), (u38 48), (u38 49), (u38 50), (u38 51), (u38 52), (u38 53), (u38 54), (u38 55), (u38 56), (u38 57), (u38 58), (u38 59), (u38 60), (u38 61), (u38 62), (u38 63), (u38 64), (u38 65), (u38 66), (u38 67), (u38 68), (u38 69), (u38 70), (u38 71), (u38 72), (u38 73), (u38 74), (u38 75), (u38 76), (u38 77), (u38 78), (u38 79), undef, undef, undef, undef, undef, undef, undef, undef, undef, undef, undef], []⟩ ∧ St w F w39 F37 [⟨n20, [(nI c0.toNat), (.slice a0 r.name.length e0), (.slice a1 r.key.length e1), (.slice a2 r.last.length e2), (.slice a3 r.value.length e3)], 27⟩, ⟨n2, [(iI 0), Zn, Zn, Zn, Zn], 27⟩] [] ∧ Le F F37 ∧ (i ≤ 4) ∧ (Bs F37 (.slice a0 r.name.length e0) r.name) ∧ (Bs F37 (.slice a1 r.key.length e1) r.key) ∧ (Bs F37 (.slice a2 r.last.length e2) r.last) ∧ (Bs F37 (.slice a3 r.value.length e3) r.value) ∧ (Bs F37 (.slice ra rn rc) rest) ∧ (rest.length ≤ 4000) ∧ (decFrom (hasN c0.toNat) (4 - i) i r rest = decW (hasN c0.toNat) (b.drop 1))) _ ⟨0, ⟨[], [], [], []⟩, none, 0, none, 0, none, 0, none, 0, (if y = 1 then x else x.map (·.add (1 * 1))), (b.length - 1), (y - 1), (b.drop 1), F, _, rfl, rfl, rfl, S24, Le.refl _, (by omega), (Bs.nil _), (Bs.nil _), (Bs.nil _), (Bs.nil _), r34, (by simp only [List.length_drop]; omega), (decFrom_all _ _)⟩ ?_
     rintro m40 a41 w42 ⟨i, r, a0, e0, a1, e1, a2, e2, a3, e3, ra, rn, rc, rest, F37, u38, rfl, -, rfl, S43, le44, hi4, hf0, hf1, hf2, hf3, hrest, hrl, hinv⟩ K45 hK45
     refine sk fun K46 hK46 => ?_
     by_cases hc40 : i < 4
     ·refine lssT ?_
      refine wn hK46 ?_
      refine wp_seq_k (fun K47 hK47 => ?_)
      refine wp_cond_true rfl ?_
      refine wp_skip ?_
      refine hK47 _ _ ?_
      refine wp_seq_k (fun K48 hK48 => ?_)
      refine wp_block ?_
      refine wp_seq_k (fun K49 hK49 => ?_)
      rcases (by omega : i = 0 ∨ i = 1 ∨ i = 2 ∨ i = 3) with h4 | h4 | h4 | h4
      ·by_cases he : (hasN c0.toNat).testBit i = true
       ·have hx := bit_yes he
        have hrn := hrest.len
        have hcap : rest.length ≤ rc := by obtain ⟨_, _, e, q, _⟩ := hrest.shape; injection e with _ _ e; rw [e]; exact q
        refine region_wl ?_
        refine dx ?_
        refine dr (pP n20 1) (ex_indexV (i := i) Tryz.underlying151 (sizeof_150 _) rfl rfl (by omega) (nagg_150 _) (by rw [h4]; rfl)) ?_
        refine dy ?_
        simp only [pq]
        refine dy ?_
        refine wl_nil (hK49 _ _ ?_)
        refine wp_seq_k (fun K50 hK50 => ?_)
        refine sk fun K51 hK51 => ?_
        refine df (fa_27_0 _ _) ?_
        refine dl (nagg_3 _) S43 0 ?_
        refine dr (pP 0 (c0.toNat)) (ex_atArr (i := c0.toNat) Tryz.underlying92 (sizeof_3 _) rfl rfl (by omega)) ?_
        simp only [pq]
        refine dr _ (ex_load rfl (load1 (nagg_3 _) (has_at (hh.below S43.gr.below) hk))) ?_
        refine dx ?_
        refine dr (nI ((hasN c0.toNat) / 2 ^ i)) (ex_shrI (m := (hasN c0.toNat)) (n := i) rfl rfl (by omega)) ?_
        simp only [pq]
        refine dr (.int .i64 (((((hasN c0.toNat) / 2 ^ i) % 2) : Nat) : Int)) (ex_andOne (m := ((hasN c0.toNat) / 2 ^ i)) rfl rfl) ?_
        refine dr bF (ex_eql (m := (((((hasN c0.toNat) / 2 ^ i) % 2) : Nat) : Int)) (n := (0 : Int)) (b := false) rfl rfl (beq_eq_false_iff_ne.2 (by rw [hx]; decide))) ?_
        refine wn hK51 ?_
        refine wp_cond_false rfl ?_
        refine wp_skip ?_
        refine hK50 _ _ ?_
        refine wp_seq_k (fun K52 hK52 => ?_)
        refine wp_seq_k (fun K53 hK53 => ?_)
        by_cases hz : rest.length = 0
        ·refine region_wl ?_
         refine dx ?_
         refine dn Tryz.underlying25 ?_
         refine eqlT ?_
         simp only [pq]
         refine dx ?_
         iterate 2 refine nO ?_
         simp only [pq]
         iterate 3 refine nO ?_
         simp only [pq]
         iterate 3 refine nO ?_
         simp only [pq]
         refine dp ?_
         refine wl_nil (hK53 _ _ ?_)
         refine wp_cond_true rfl ?_
         refine wp_seq_k (fun K54 hK54 => ?_)
         have hN : decW (hasN c0.toNat) (b.drop 1) = none := by rw [← hinv, show 4 - i = (3 - i) + 1 from by omega]; exact decFrom_none he (part_nil hz)
         have hE : wdE b = 14 := by rw [hwd, hN]
         refine region_wl ?_
         refine dr (.agg #[(iI 0), Zn, Zn, Zn, Zn]) (ex_build (bmap0) (by kernel_rfl)) ?_
         refine sW 1 S43 (size_27) fun w55 S56 => ?_
         simp only [pq]
         refine dy ?_
         refine wl_nil (hK54 _ _ ?_)
         refine wp_ret ?_
         (try simp only [Exit.then, Exit.inBlock, ↓reduceIte, Nat.reduceEqDiff])
         refine bR (res_ct rfl ⟨_, rfl, lR S56 1 Tryz.underlying27 (size_27)⟩ (gD rfl)) ?_
         ·exact ⟨_, _, rfl, S56.gr, decQ_bad hE (by decide)⟩
        ·obtain ⟨c1, hc1⟩ : ∃ c, rest[0]? = some c := ⟨rest[0], List.getElem?_eq_getElem (by omega)⟩
         have hb9 := UInt8.toNat_lt c1
         obtain ⟨b57, o58, ha59, c60⟩ := Bs.get hrest hc1
         refine region_wl ?_
         refine dx ?_
         refine dn Tryz.underlying25 ?_
         refine eqlF ?_
         simp only [pq]
         iterate 2 refine dx ?_
         refine dn Tryz.underlying25 ?_
         simp only [pq]
         refine dx ?_
         refine dr (pP b57 (o58 + 0 * 1)) (ex_at (i := 0) (sz := 1) Tryz.underlying25 (sizeof_5 _) rfl ha59 rfl (by omega) rfl) ?_
         refine dr _ (ex_load rfl (load1 (nagg_5 _) (St.fz S43 c60))) ?_
         simp only [pq]
         refine dr (nI c1.toNat) (ex_convert (v := (bv c1)) rfl (conv_int c1 _)) ?_
         refine dAdd (1 + c1.toNat) ?_
         simp only [pq]
         by_cases hc62 : rn < (1 + c1.toNat)
         ·refine lssT ?_
          refine dp ?_
          refine wl_nil (hK53 _ _ ?_)
          refine wp_cond_true rfl ?_
          refine wp_seq_k (fun K61 hK61 => ?_)
          have hN : decW (hasN c0.toNat) (b.drop 1) = none := by rw [← hinv, show 4 - i = (3 - i) + 1 from by omega]; exact decFrom_none he (part_short hc1 (by omega))
          have hE : wdE b = 14 := by rw [hwd, hN]
          refine region_wl ?_
          refine dr (.agg #[(iI 0), Zn, Zn, Zn, Zn]) (ex_build (bmap0) (by kernel_rfl)) ?_
          simp only [pq]
          refine sW 1 S43 (size_27) fun w62 S63 => ?_
          refine dy ?_
          refine wl_nil (hK61 _ _ ?_)
          refine wp_ret ?_
          (try simp only [Exit.then, Exit.inBlock, ↓reduceIte, Nat.reduceEqDiff])
          refine bR (res_ct rfl ⟨_, rfl, lR S63 1 Tryz.underlying27 (size_27)⟩ (gD rfl)) ?_
          ·exact ⟨_, _, rfl, S63.gr, decQ_bad hE (by decide)⟩
         ·refine lssF ?_
          refine dp ?_
          simp only [pq]
          refine wl_nil (hK53 _ _ ?_)
          refine wp_cond_false rfl ?_
          refine wp_skip ?_
          refine hK52 _ _ ?_
          refine sk fun K64 hK64 => ?_
          refine dx ?_
          refine dr (pP b57 (o58 + 0 * 1)) (ex_at (i := 0) (sz := 1) Tryz.underlying25 (sizeof_5 _) rfl ha59 rfl (by omega) rfl) ?_
          refine dr _ (ex_load rfl (load1 (nagg_5 _) (St.fz S43 c60))) ?_
          simp only [pq]
          refine dr (nI c1.toNat) (ex_convert (v := (bv c1)) rfl (conv_int c1 _)) ?_
          refine dAdd (1 + c1.toNat) ?_
          refine dy ?_
          simp only [pq]
          refine wn hK64 ?_
          refine sk fun K65 hK65 => ?_
          iterate 3 refine dx ?_
          simp only [pq]
          have r66 : Bs _ (.slice ra (1 + c1.toNat) rc) (rest.take (1 + c1.toNat)) := bs_of_sl (Sl.takeN (m := (1 + c1.toNat)) (Bs.sl hrest) (by omega))
          have r66 : Bs _ (.slice (if rc = 1 then ra else ra.map (·.add (1 * 1))) ((1 + c1.toNat) - 1) (rc - 1)) ((rest.take (1 + c1.toNat)).drop 1) := Bs.rest r66 (by omega)
          refine dr (.slice (if rc = 1 then ra else ra.map (·.add (1 * 1))) ((1 + c1.toNat) - 1) (rc - 1)) (ex_slice (l := 1) (h := (1 + c1.toNat)) (sz := 1) Tryz.underlying25 rfl (sizeof_5 _) (.inr ⟨_, rfl, rfl⟩) (.inr ⟨_, rfl, rfl⟩) (by omega) (by omega) (rfl)) ?_
          refine stGives S43 rfl (fn1 (ent_45 _ _)) (clone_spec _ _ _ ((rest.take (1 + c1.toNat)).drop 1) (S43).sat r66 (by simp only [List.length_drop, List.length_take]; omega)) ?_
          intro v72 w67 F69 S68 le70 R71
          obtain ⟨xa73, xc74, rfl, _⟩ := R71.shape
          refine di ?_
          refine sW 0 S68 (size_25) fun w75 S76 => ?_
          simp only [pq]
          refine wn hK65 ?_
          refine region_wl ?_
          iterate 2 refine dx ?_
          simp only [pq]
          have r77 : Bs _ (.slice (if rc = (1 + c1.toNat) then ra else ra.map (·.add ((1 + c1.toNat) * 1))) (rn - (1 + c1.toNat)) (rc - (1 + c1.toNat))) (rest.drop (1 + c1.toNat)) := Bs.rest (hrest.mono le70) (by omega)
          refine dr (.slice (if rc = (1 + c1.toNat) then ra else ra.map (·.add ((1 + c1.toNat) * 1))) (rn - (1 + c1.toNat)) (rc - (1 + c1.toNat))) (ex_slice (l := (1 + c1.toNat)) (h := rn) (sz := 1) Tryz.underlying25 rfl (sizeof_5 _) (.inr ⟨_, rfl, rfl⟩) (.inl ⟨rfl, rfl⟩) (by omega) (by omega) (rfl)) ?_
          refine dy ?_
          refine wl_nil (hK48 _ _ ?_)
          refine region_wl ?_
          refine dAdd (i + 1) ?_
          refine dx ?_
          simp only [pq]
          refine wl_nil ?_
          exact hK45 _ _ _ (by omega) ⟨(i + 1), (⟨((rest.take (1 + c1.toNat)).drop 1), r.key, r.last, r.value⟩ : Rq), xa73, xc74, a1, e1, a2, e2, a3, e3, (if rc = (1 + c1.toNat) then ra else ra.map (·.add ((1 + c1.toNat) * 1))), (rn - (1 + c1.toNat)), (rc - (1 + c1.toNat)), (rest.drop (1 + c1.toNat)), F69, _, rfl, rfl, rfl, S76, (le44.trans le70), (by omega), R71, (hf1.mono le70), (hf2.mono le70), (hf3.mono le70), r77, (by simp only [List.length_drop]; omega), (by subst h4; rw [← hinv]; exact (decFrom_some (n := 3) he (part_long hc1 (by omega))).symm)⟩
       ·have he : (hasN c0.toNat).testBit i = false := by simpa using he
        have hx := bit_no he
        have hrn := hrest.len
        have hcap : rest.length ≤ rc := by obtain ⟨_, _, e, q, _⟩ := hrest.shape; injection e with _ _ e; rw [e]; exact q
        refine region_wl ?_
        refine dx ?_
        refine dr (pP n20 1) (ex_indexV (i := i) Tryz.underlying151 (sizeof_150 _) rfl rfl (by omega) (nagg_150 _) (by rw [h4]; rfl)) ?_
        refine dy ?_
        simp only [pq]
        refine dy ?_
        refine wl_nil (hK49 _ _ ?_)
        refine wp_seq_k (fun K78 hK78 => ?_)
        refine sk fun K79 hK79 => ?_
        refine df (fa_27_0 _ _) ?_
        refine dl (nagg_3 _) S43 0 ?_
        refine dr (pP 0 (c0.toNat)) (ex_atArr (i := c0.toNat) Tryz.underlying92 (sizeof_3 _) rfl rfl (by omega)) ?_
        simp only [pq]
        refine dr _ (ex_load rfl (load1 (nagg_3 _) (has_at (hh.below S43.gr.below) hk))) ?_
        refine dx ?_
        refine dr (nI ((hasN c0.toNat) / 2 ^ i)) (ex_shrI (m := (hasN c0.toNat)) (n := i) rfl rfl (by omega)) ?_
        simp only [pq]
        refine dr (.int .i64 (((((hasN c0.toNat) / 2 ^ i) % 2) : Nat) : Int)) (ex_andOne (m := ((hasN c0.toNat) / 2 ^ i)) rfl rfl) ?_
        refine dr bT (ex_eql (m := (((((hasN c0.toNat) / 2 ^ i) % 2) : Nat) : Int)) (n := (0 : Int)) (b := true) rfl rfl (beq_iff_eq.2 (by rw [hx]; rfl))) ?_
        refine wn hK79 ?_
        refine wp_cond_true rfl ?_
        refine wp_exit ?_
        refine hK48 _ _ ?_
        refine region_wl ?_
        refine dAdd (i + 1) ?_
        refine dx ?_
        simp only [pq]
        refine wl_nil ?_
        exact hK45 _ _ _ (by omega) ⟨(i + 1), r, a0, e0, a1, e1, a2, e2, a3, e3, ra, rn, rc, rest, F37, _, rfl, rfl, rfl, S43, le44, (by omega), hf0, hf1, hf2, hf3, hrest, (by omega), (by subst h4; rw [← hinv]; exact (decFrom_no (n := 3) he).symm)⟩
      ·by_cases he : (hasN c0.toNat).testBit i = true
       ·have hx := bit_yes he
        have hrn := hrest.len
        have hcap : rest.length ≤ rc := by obtain ⟨_, _, e, q, _⟩ := hrest.shape; injection e with _ _ e; rw [e]; exact q
        refine region_wl ?_
        refine dx ?_
        refine dr (pP n20 2) (ex_indexV (i := i) Tryz.underlying151 (sizeof_150 _) rfl rfl (by omega) (nagg_150 _) (by rw [h4]; rfl)) ?_
        refine dy ?_
        simp only [pq]
        refine dy ?_
        refine wl_nil (hK49 _ _ ?_)
        refine wp_seq_k (fun K80 hK80 => ?_)
        refine sk fun K81 hK81 => ?_
        refine df (fa_27_0 _ _) ?_
        refine dl (nagg_3 _) S43 0 ?_
        refine dr (pP 0 (c0.toNat)) (ex_atArr (i := c0.toNat) Tryz.underlying92 (sizeof_3 _) rfl rfl (by omega)) ?_
        simp only [pq]
        refine dr _ (ex_load rfl (load1 (nagg_3 _) (has_at (hh.below S43.gr.below) hk))) ?_
        refine dx ?_
        refine dr (nI ((hasN c0.toNat) / 2 ^ i)) (ex_shrI (m := (hasN c0.toNat)) (n := i) rfl rfl (by omega)) ?_
        simp only [pq]
        refine dr (.int .i64 (((((hasN c0.toNat) / 2 ^ i) % 2) : Nat) : Int)) (ex_andOne (m := ((hasN c0.toNat) / 2 ^ i)) rfl rfl) ?_
        refine dr bF (ex_eql (m := (((((hasN c0.toNat) / 2 ^ i) % 2) : Nat) : Int)) (n := (0 : Int)) (b := false) rfl rfl (beq_eq_false_iff_ne.2 (by rw [hx]; decide))) ?_
        refine wn hK81 ?_
        refine wp_cond_false rfl ?_
        refine wp_skip ?_
        refine hK80 _ _ ?_
        refine wp_seq_k (fun K82 hK82 => ?_)
        refine wp_seq_k (fun K83 hK83 => ?_)
        by_cases hz : rest.length = 0
        ·refine region_wl ?_
         refine dx ?_
         refine dn Tryz.underlying25 ?_
         refine eqlT ?_
         simp only [pq]
         refine dx ?_
         iterate 2 refine nO ?_
         simp only [pq]
         iterate 3 refine nO ?_
         simp only [pq]
         iterate 3 refine nO ?_
         simp only [pq]
         refine dp ?_
         refine wl_nil (hK83 _ _ ?_)
         refine wp_cond_true rfl ?_
         refine wp_seq_k (fun K84 hK84 => ?_)
         have hN : decW (hasN c0.toNat) (b.drop 1) = none := by rw [← hinv, show 4 - i = (3 - i) + 1 from by omega]; exact decFrom_none he (part_nil hz)
         have hE : wdE b = 14 := by rw [hwd, hN]
         refine region_wl ?_
         refine dr (.agg #[(iI 0), Zn, Zn, Zn, Zn]) (ex_build (bmap0) (by kernel_rfl)) ?_
         refine sW 1 S43 (size_27) fun w85 S86 => ?_
         simp only [pq]
         refine dy ?_
         refine wl_nil (hK84 _ _ ?_)
         refine wp_ret ?_
         (try simp only [Exit.then, Exit.inBlock, ↓reduceIte, Nat.reduceEqDiff])
         refine bR (res_ct rfl ⟨_, rfl, lR S86 1 Tryz.underlying27 (size_27)⟩ (gD rfl)) ?_
         ·exact ⟨_, _, rfl, S86.gr, decQ_bad hE (by decide)⟩
        ·obtain ⟨c1, hc1⟩ : ∃ c, rest[0]? = some c := ⟨rest[0], List.getElem?_eq_getElem (by omega)⟩
         have hb9 := UInt8.toNat_lt c1
         obtain ⟨b87, o88, ha89, c90⟩ := Bs.get hrest hc1
         refine region_wl ?_
         refine dx ?_
         refine dn Tryz.underlying25 ?_
         refine eqlF ?_
         simp only [pq]
         iterate 2 refine dx ?_
         refine dn Tryz.underlying25 ?_
         simp only [pq]
         refine dx ?_
         refine dr (pP b87 (o88 + 0 * 1)) (ex_at (i := 0) (sz := 1) Tryz.underlying25 (sizeof_5 _) rfl ha89 rfl (by omega) rfl) ?_
         refine dr _ (ex_load rfl (load1 (nagg_5 _) (St.fz S43 c90))) ?_
         simp only [pq]
         refine dr (nI c1.toNat) (ex_convert (v := (bv c1)) rfl (conv_int c1 _)) ?_
         refine dAdd (1 + c1.toNat) ?_
         simp only [pq]
         by_cases hc62 : rn < (1 + c1.toNat)
         ·refine lssT ?_
          refine dp ?_
          refine wl_nil (hK83 _ _ ?_)
          refine wp_cond_true rfl ?_
          refine wp_seq_k (fun K91 hK91 => ?_)
          have hN : decW (hasN c0.toNat) (b.drop 1) = none := by rw [← hinv, show 4 - i = (3 - i) + 1 from by omega]; exact decFrom_none he (part_short hc1 (by omega))
          have hE : wdE b = 14 := by rw [hwd, hN]
          refine region_wl ?_
          refine dr (.agg #[(iI 0), Zn, Zn, Zn, Zn]) (ex_build (bmap0) (by kernel_rfl)) ?_
          simp only [pq]
          refine sW 1 S43 (size_27) fun w92 S93 => ?_
          refine dy ?_
          refine wl_nil (hK91 _ _ ?_)
          refine wp_ret ?_
          (try simp only [Exit.then, Exit.inBlock, ↓reduceIte, Nat.reduceEqDiff])
          refine bR (res_ct rfl ⟨_, rfl, lR S93 1 Tryz.underlying27 (size_27)⟩ (gD rfl)) ?_
          ·exact ⟨_, _, rfl, S93.gr, decQ_bad hE (by decide)⟩
         ·refine lssF ?_
          refine dp ?_
          simp only [pq]
          refine wl_nil (hK83 _ _ ?_)
          refine wp_cond_false rfl ?_
          refine wp_skip ?_
          refine hK82 _ _ ?_
          refine sk fun K94 hK94 => ?_
          refine dx ?_
          refine dr (pP b87 (o88 + 0 * 1)) (ex_at (i := 0) (sz := 1) Tryz.underlying25 (sizeof_5 _) rfl ha89 rfl (by omega) rfl) ?_
          refine dr _ (ex_load rfl (load1 (nagg_5 _) (St.fz S43 c90))) ?_
          simp only [pq]
          refine dr (nI c1.toNat) (ex_convert (v := (bv c1)) rfl (conv_int c1 _)) ?_
          refine dAdd (1 + c1.toNat) ?_
          refine dy ?_
          simp only [pq]
          refine wn hK94 ?_
          refine sk fun K95 hK95 => ?_
          iterate 3 refine dx ?_
          simp only [pq]
          have r96 : Bs _ (.slice ra (1 + c1.toNat) rc) (rest.take (1 + c1.toNat)) := bs_of_sl (Sl.takeN (m := (1 + c1.toNat)) (Bs.sl hrest) (by omega))
          have r96 : Bs _ (.slice (if rc = 1 then ra else ra.map (·.add (1 * 1))) ((1 + c1.toNat) - 1) (rc - 1)) ((rest.take (1 + c1.toNat)).drop 1) := Bs.rest r96 (by omega)
          refine dr (.slice (if rc = 1 then ra else ra.map (·.add (1 * 1))) ((1 + c1.toNat) - 1) (rc - 1)) (ex_slice (l := 1) (h := (1 + c1.toNat)) (sz := 1) Tryz.underlying25 rfl (sizeof_5 _) (.inr ⟨_, rfl, rfl⟩) (.inr ⟨_, rfl, rfl⟩) (by omega) (by omega) (rfl)) ?_
          refine stGives S43 rfl (fn1 (ent_45 _ _)) (clone_spec _ _ _ ((rest.take (1 + c1.toNat)).drop 1) (S43).sat r96 (by simp only [List.length_drop, List.length_take]; omega)) ?_
          intro v102 w97 F99 S98 le100 R101
          obtain ⟨xa103, xc104, rfl, _⟩ := R101.shape
          refine di ?_
          refine sW 0 S98 (size_25) fun w105 S106 => ?_
          simp only [pq]
          refine wn hK95 ?_
          refine region_wl ?_
          iterate 2 refine dx ?_
          simp only [pq]
          have r107 : Bs _ (.slice (if rc = (1 + c1.toNat) then ra else ra.map (·.add ((1 + c1.toNat) * 1))) (rn - (1 + c1.toNat)) (rc - (1 + c1.toNat))) (rest.drop (1 + c1.toNat)) := Bs.rest (hrest.mono le100) (by omega)
          refine dr (.slice (if rc = (1 + c1.toNat) then ra else ra.map (·.add ((1 + c1.toNat) * 1))) (rn - (1 + c1.toNat)) (rc - (1 + c1.toNat))) (ex_slice (l := (1 + c1.toNat)) (h := rn) (sz := 1) Tryz.underlying25 rfl (sizeof_5 _) (.inr ⟨_, rfl, rfl⟩) (.inl ⟨rfl, rfl⟩) (by omega) (by omega) (rfl)) ?_
          refine dy ?_
          refine wl_nil (hK48 _ _ ?_)
          refine region_wl ?_
          refine dAdd (i + 1) ?_
          refine dx ?_
          simp only [pq]
          refine wl_nil ?_
          exact hK45 _ _ _ (by omega) ⟨(i + 1), (⟨r.name, ((rest.take (1 + c1.toNat)).drop 1), r.last, r.value⟩ : Rq), a0, e0, xa103, xc104, a2, e2, a3, e3, (if rc = (1 + c1.toNat) then ra else ra.map (·.add ((1 + c1.toNat) * 1))), (rn - (1 + c1.toNat)), (rc - (1 + c1.toNat)), (rest.drop (1 + c1.toNat)), F99, _, rfl, rfl, rfl, S106, (le44.trans le100), (by omega), (hf0.mono le100), R101, (hf2.mono le100), (hf3.mono le100), r107, (by simp only [List.length_drop]; omega), (by subst h4; rw [← hinv]; exact (decFrom_some (n := 2) he (part_long hc1 (by omega))).symm)⟩
       ·have he : (hasN c0.toNat).testBit i = false := by simpa using he
        have hx := bit_no he
        have hrn := hrest.len
        have hcap : rest.length ≤ rc := by obtain ⟨_, _, e, q, _⟩ := hrest.shape; injection e with _ _ e; rw [e]; exact q
        refine region_wl ?_
        refine dx ?_
        refine dr (pP n20 2) (ex_indexV (i := i) Tryz.underlying151 (sizeof_150 _) rfl rfl (by omega) (nagg_150 _) (by rw [h4]; rfl)) ?_
        refine dy ?_
        simp only [pq]
        refine dy ?_
        refine wl_nil (hK49 _ _ ?_)
        refine wp_seq_k (fun K108 hK108 => ?_)
        refine sk fun K109 hK109 => ?_
        refine df (fa_27_0 _ _) ?_
        refine dl (nagg_3 _) S43 0 ?_
        refine dr (pP 0 (c0.toNat)) (ex_atArr (i := c0.toNat) Tryz.underlying92 (sizeof_3 _) rfl rfl (by omega)) ?_
        simp only [pq]
        refine dr _ (ex_load rfl (load1 (nagg_3 _) (has_at (hh.below S43.gr.below) hk))) ?_
        refine dx ?_
        refine dr (nI ((hasN c0.toNat) / 2 ^ i)) (ex_shrI (m := (hasN c0.toNat)) (n := i) rfl rfl (by omega)) ?_
        simp only [pq]
        refine dr (.int .i64 (((((hasN c0.toNat) / 2 ^ i) % 2) : Nat) : Int)) (ex_andOne (m := ((hasN c0.toNat) / 2 ^ i)) rfl rfl) ?_
        refine dr bT (ex_eql (m := (((((hasN c0.toNat) / 2 ^ i) % 2) : Nat) : Int)) (n := (0 : Int)) (b := true) rfl rfl (beq_iff_eq.2 (by rw [hx]; rfl))) ?_
        refine wn hK109 ?_
        refine wp_cond_true rfl ?_
        refine wp_exit ?_
        refine hK48 _ _ ?_
        refine region_wl ?_
        refine dAdd (i + 1) ?_
        refine dx ?_
        simp only [pq]
        refine wl_nil ?_
        exact hK45 _ _ _ (by omega) ⟨(i + 1), r, a0, e0, a1, e1, a2, e2, a3, e3, ra, rn, rc, rest, F37, _, rfl, rfl, rfl, S43, le44, (by omega), hf0, hf1, hf2, hf3, hrest, (by omega), (by subst h4; rw [← hinv]; exact (decFrom_no (n := 2) he).symm)⟩
      ·by_cases he : (hasN c0.toNat).testBit i = true
       ·have hx := bit_yes he
        have hrn := hrest.len
        have hcap : rest.length ≤ rc := by obtain ⟨_, _, e, q, _⟩ := hrest.shape; injection e with _ _ e; rw [e]; exact q
        refine region_wl ?_
        refine dx ?_
        refine dr (pP n20 3) (ex_indexV (i := i) Tryz.underlying151 (sizeof_150 _) rfl rfl (by omega) (nagg_150 _) (by rw [h4]; rfl)) ?_
        refine dy ?_
        simp only [pq]
        refine dy ?_
        refine wl_nil (hK49 _ _ ?_)
        refine wp_seq_k (fun K110 hK110 => ?_)
        refine sk fun K111 hK111 => ?_
        refine df (fa_27_0 _ _) ?_
        refine dl (nagg_3 _) S43 0 ?_
        refine dr (pP 0 (c0.toNat)) (ex_atArr (i := c0.toNat) Tryz.underlying92 (sizeof_3 _) rfl rfl (by omega)) ?_
        simp only [pq]
        refine dr _ (ex_load rfl (load1 (nagg_3 _) (has_at (hh.below S43.gr.below) hk))) ?_
        refine dx ?_
        refine dr (nI ((hasN c0.toNat) / 2 ^ i)) (ex_shrI (m := (hasN c0.toNat)) (n := i) rfl rfl (by omega)) ?_
        simp only [pq]
        refine dr (.int .i64 (((((hasN c0.toNat) / 2 ^ i) % 2) : Nat) : Int)) (ex_andOne (m := ((hasN c0.toNat) / 2 ^ i)) rfl rfl) ?_
        refine dr bF (ex_eql (m := (((((hasN c0.toNat) / 2 ^ i) % 2) : Nat) : Int)) (n := (0 : Int)) (b := false) rfl rfl (beq_eq_false_iff_ne.2 (by rw [hx]; decide))) ?_
        refine wn hK111 ?_
        refine wp_cond_false rfl ?_
        refine wp_skip ?_
        refine hK110 _ _ ?_
        refine wp_seq_k (fun K112 hK112 => ?_)
        refine wp_seq_k (fun K113 hK113 => ?_)
        by_cases hz : rest.length = 0
        ·refine region_wl ?_
         refine dx ?_
         refine dn Tryz.underlying25 ?_
         refine eqlT ?_
         simp only [pq]
         refine dx ?_
         iterate 2 refine nO ?_
         simp only [pq]
         iterate 3 refine nO ?_
         simp only [pq]
         iterate 3 refine nO ?_
         simp only [pq]
         refine dp ?_
         refine wl_nil (hK113 _ _ ?_)
         refine wp_cond_true rfl ?_
         refine wp_seq_k (fun K114 hK114 => ?_)
         have hN : decW (hasN c0.toNat) (b.drop 1) = none := by rw [← hinv, show 4 - i = (3 - i) + 1 from by omega]; exact decFrom_none he (part_nil hz)
         have hE : wdE b = 14 := by rw [hwd, hN]
         refine region_wl ?_
         refine dr (.agg #[(iI 0), Zn, Zn, Zn, Zn]) (ex_build (bmap0) (by kernel_rfl)) ?_
         refine sW 1 S43 (size_27) fun w115 S116 => ?_
         simp only [pq]
         refine dy ?_
         refine wl_nil (hK114 _ _ ?_)
         refine wp_ret ?_
         (try simp only [Exit.then, Exit.inBlock, ↓reduceIte, Nat.reduceEqDiff])
         refine bR (res_ct rfl ⟨_, rfl, lR S116 1 Tryz.underlying27 (size_27)⟩ (gD rfl)) ?_
         ·exact ⟨_, _, rfl, S116.gr, decQ_bad hE (by decide)⟩
        ·obtain ⟨c1, hc1⟩ : ∃ c, rest[0]? = some c := ⟨rest[0], List.getElem?_eq_getElem (by omega)⟩
         have hb9 := UInt8.toNat_lt c1
         obtain ⟨b117, o118, ha119, c120⟩ := Bs.get hrest hc1
         refine region_wl ?_
         refine dx ?_
         refine dn Tryz.underlying25 ?_
         refine eqlF ?_
         simp only [pq]
         iterate 2 refine dx ?_
         refine dn Tryz.underlying25 ?_
         simp only [pq]
         refine dx ?_
         refine dr (pP b117 (o118 + 0 * 1)) (ex_at (i := 0) (sz := 1) Tryz.underlying25 (sizeof_5 _) rfl ha119 rfl (by omega) rfl) ?_
         refine dr _ (ex_load rfl (load1 (nagg_5 _) (St.fz S43 c120))) ?_
         simp only [pq]
         refine dr (nI c1.toNat) (ex_convert (v := (bv c1)) rfl (conv_int c1 _)) ?_
         refine dAdd (1 + c1.toNat) ?_
         simp only [pq]
         by_cases hc62 : rn < (1 + c1.toNat)
         ·refine lssT ?_
          refine dp ?_
          refine wl_nil (hK113 _ _ ?_)
          refine wp_cond_true rfl ?_
          refine wp_seq_k (fun K121 hK121 => ?_)
          have hN : decW (hasN c0.toNat) (b.drop 1) = none := by rw [← hinv, show 4 - i = (3 - i) + 1 from by omega]; exact decFrom_none he (part_short hc1 (by omega))
          have hE : wdE b = 14 := by rw [hwd, hN]
          refine region_wl ?_
          refine dr (.agg #[(iI 0), Zn, Zn, Zn, Zn]) (ex_build (bmap0) (by kernel_rfl)) ?_
          simp only [pq]
          refine sW 1 S43 (size_27) fun w122 S123 => ?_
          refine dy ?_
          refine wl_nil (hK121 _ _ ?_)
          refine wp_ret ?_
          (try simp only [Exit.then, Exit.inBlock, ↓reduceIte, Nat.reduceEqDiff])
          refine bR (res_ct rfl ⟨_, rfl, lR S123 1 Tryz.underlying27 (size_27)⟩ (gD rfl)) ?_
          ·exact ⟨_, _, rfl, S123.gr, decQ_bad hE (by decide)⟩
         ·refine lssF ?_
          refine dp ?_
          simp only [pq]
          refine wl_nil (hK113 _ _ ?_)
          refine wp_cond_false rfl ?_
          refine wp_skip ?_
          refine hK112 _ _ ?_
          refine sk fun K124 hK124 => ?_
          refine dx ?_
          refine dr (pP b117 (o118 + 0 * 1)) (ex_at (i := 0) (sz := 1) Tryz.underlying25 (sizeof_5 _) rfl ha119 rfl (by omega) rfl) ?_
          refine dr _ (ex_load rfl (load1 (nagg_5 _) (St.fz S43 c120))) ?_
          simp only [pq]
          refine dr (nI c1.toNat) (ex_convert (v := (bv c1)) rfl (conv_int c1 _)) ?_
          refine dAdd (1 + c1.toNat) ?_
          refine dy ?_
          simp only [pq]
          refine wn hK124 ?_
          refine sk fun K125 hK125 => ?_
          iterate 3 refine dx ?_
          simp only [pq]
          have r126 : Bs _ (.slice ra (1 + c1.toNat) rc) (rest.take (1 + c1.toNat)) := bs_of_sl (Sl.takeN (m := (1 + c1.toNat)) (Bs.sl hrest) (by omega))
          have r126 : Bs _ (.slice (if rc = 1 then ra else ra.map (·.add (1 * 1))) ((1 + c1.toNat) - 1) (rc - 1)) ((rest.take (1 + c1.toNat)).drop 1) := Bs.rest r126 (by omega)
          refine dr (.slice (if rc = 1 then ra else ra.map (·.add (1 * 1))) ((1 + c1.toNat) - 1) (rc - 1)) (ex_slice (l := 1) (h := (1 + c1.toNat)) (sz := 1) Tryz.underlying25 rfl (sizeof_5 _) (.inr ⟨_, rfl, rfl⟩) (.inr ⟨_, rfl, rfl⟩) (by omega) (by omega) (rfl)) ?_
          refine stGives S43 rfl (fn1 (ent_45 _ _)) (clone_spec _ _ _ ((rest.take (1 + c1.toNat)).drop 1) (S43).sat r126 (by simp only [List.length_drop, List.length_take]; omega)) ?_
          intro v132 w127 F129 S128 le130 R131
          obtain ⟨xa133, xc134, rfl, _⟩ := R131.shape
          refine di ?_
          refine sW 0 S128 (size_25) fun w135 S136 => ?_
          simp only [pq]
          refine wn hK125 ?_
          refine region_wl ?_
          iterate 2 refine dx ?_
          simp only [pq]
          have r137 : Bs _ (.slice (if rc = (1 + c1.toNat) then ra else ra.map (·.add ((1 + c1.toNat) * 1))) (rn - (1 + c1.toNat)) (rc - (1 + c1.toNat))) (rest.drop (1 + c1.toNat)) := Bs.rest (hrest.mono le130) (by omega)
          refine dr (.slice (if rc = (1 + c1.toNat) then ra else ra.map (·.add ((1 + c1.toNat) * 1))) (rn - (1 + c1.toNat)) (rc - (1 + c1.toNat))) (ex_slice (l := (1 + c1.toNat)) (h := rn) (sz := 1) Tryz.underlying25 rfl (sizeof_5 _) (.inr ⟨_, rfl, rfl⟩) (.inl ⟨rfl, rfl⟩) (by omega) (by omega) (rfl)) ?_
          refine dy ?_
          refine wl_nil (hK48 _ _ ?_)
          refine region_wl ?_
          refine dAdd (i + 1) ?_
          refine dx ?_
          simp only [pq]
          refine wl_nil ?_
          exact hK45 _ _ _ (by omega) ⟨(i + 1), (⟨r.name, r.key, ((rest.take (1 + c1.toNat)).drop 1), r.value⟩ : Rq), a0, e0, a1, e1, xa133, xc134, a3, e3, (if rc = (1 + c1.toNat) then ra else ra.map (·.add ((1 + c1.toNat) * 1))), (rn - (1 + c1.toNat)), (rc - (1 + c1.toNat)), (rest.drop (1 + c1.toNat)), F129, _, rfl, rfl, rfl, S136, (le44.trans le130), (by omega), (hf0.mono le130), (hf1.mono le130), R131, (hf3.mono le130), r137, (by simp only [List.length_drop]; omega), (by subst h4; rw [← hinv]; exact (decFrom_some (n := 1) he (part_long hc1 (by omega))).symm)⟩
       ·have he : (hasN c0.toNat).testBit i = false := by simpa using he
        have hx := bit_no he
        have hrn := hrest.len
        have hcap : rest.length ≤ rc := by obtain ⟨_, _, e, q, _⟩ := hrest.shape; injection e with _ _ e; rw [e]; exact q
        refine region_wl ?_
        refine dx ?_
        refine dr (pP n20 3) (ex_indexV (i := i) Tryz.underlying151 (sizeof_150 _) rfl rfl (by omega) (nagg_150 _) (by rw [h4]; rfl)) ?_
        refine dy ?_
        simp only [pq]
        refine dy ?_
        refine wl_nil (hK49 _ _ ?_)
        refine wp_seq_k (fun K138 hK138 => ?_)
        refine sk fun K139 hK139 => ?_
        refine df (fa_27_0 _ _) ?_
        refine dl (nagg_3 _) S43 0 ?_
        refine dr (pP 0 (c0.toNat)) (ex_atArr (i := c0.toNat) Tryz.underlying92 (sizeof_3 _) rfl rfl (by omega)) ?_
        simp only [pq]
        refine dr _ (ex_load rfl (load1 (nagg_3 _) (has_at (hh.below S43.gr.below) hk))) ?_
        refine dx ?_
        refine dr (nI ((hasN c0.toNat) / 2 ^ i)) (ex_shrI (m := (hasN c0.toNat)) (n := i) rfl rfl (by omega)) ?_
        simp only [pq]
        refine dr (.int .i64 (((((hasN c0.toNat) / 2 ^ i) % 2) : Nat) : Int)) (ex_andOne (m := ((hasN c0.toNat) / 2 ^ i)) rfl rfl) ?_
        refine dr bT (ex_eql (m := (((((hasN c0.toNat) / 2 ^ i) % 2) : Nat) : Int)) (n := (0 : Int)) (b := true) rfl rfl (beq_iff_eq.2 (by rw [hx]; rfl))) ?_
        refine wn hK139 ?_
        refine wp_cond_true rfl ?_
        refine wp_exit ?_
        refine hK48 _ _ ?_
        refine region_wl ?_
        refine dAdd (i + 1) ?_
        refine dx ?_
        simp only [pq]
        refine wl_nil ?_
        exact hK45 _ _ _ (by omega) ⟨(i + 1), r, a0, e0, a1, e1, a2, e2, a3, e3, ra, rn, rc, rest, F37, _, rfl, rfl, rfl, S43, le44, (by omega), hf0, hf1, hf2, hf3, hrest, (by omega), (by subst h4; rw [← hinv]; exact (decFrom_no (n := 1) he).symm)⟩
      ·by_cases he : (hasN c0.toNat).testBit i = true
       ·have hx := bit_yes he
        have hrn := hrest.len
        have hcap : rest.length ≤ rc := by obtain ⟨_, _, e, q, _⟩ := hrest.shape; injection e with _ _ e; rw [e]; exact q
        refine region_wl ?_
        refine dx ?_
        refine dr (pP n20 4) (ex_indexV (i := i) Tryz.underlying151 (sizeof_150 _) rfl rfl (by omega) (nagg_150 _) (by rw [h4]; rfl)) ?_
        refine dy ?_
        simp only [pq]
        refine dy ?_
        refine wl_nil (hK49 _ _ ?_)
        refine wp_seq_k (fun K140 hK140 => ?_)
        refine sk fun K141 hK141 => ?_
        refine df (fa_27_0 _ _) ?_
        refine dl (nagg_3 _) S43 0 ?_
        refine dr (pP 0 (c0.toNat)) (ex_atArr (i := c0.toNat) Tryz.underlying92 (sizeof_3 _) rfl rfl (by omega)) ?_
        simp only [pq]
        refine dr _ (ex_load rfl (load1 (nagg_3 _) (has_at (hh.below S43.gr.below) hk))) ?_
        refine dx ?_
        refine dr (nI ((hasN c0.toNat) / 2 ^ i)) (ex_shrI (m := (hasN c0.toNat)) (n := i) rfl rfl (by omega)) ?_
        simp only [pq]
        refine dr (.int .i64 (((((hasN c0.toNat) / 2 ^ i) % 2) : Nat) : Int)) (ex_andOne (m := ((hasN c0.toNat) / 2 ^ i)) rfl rfl) ?_
        refine dr bF (ex_eql (m := (((((hasN c0.toNat) / 2 ^ i) % 2) : Nat) : Int)) (n := (0 : Int)) (b := false) rfl rfl (beq_eq_false_iff_ne.2 (by rw [hx]; decide))) ?_
        refine wn hK141 ?_
        refine wp_cond_false rfl ?_
        refine wp_skip ?_
        refine hK140 _ _ ?_
        refine wp_seq_k (fun K142 hK142 => ?_)
        refine wp_seq_k (fun K143 hK143 => ?_)
        by_cases hz : rest.length = 0
        ·refine region_wl ?_
         refine dx ?_
         refine dn Tryz.underlying25 ?_
         refine eqlT ?_
         simp only [pq]
         refine dx ?_
         iterate 2 refine nO ?_
         simp only [pq]
         iterate 3 refine nO ?_
         simp only [pq]
         iterate 3 refine nO ?_
         simp only [pq]
         refine dp ?_
         refine wl_nil (hK143 _ _ ?_)
         refine wp_cond_true rfl ?_
         refine wp_seq_k (fun K144 hK144 => ?_)
         have hN : decW (hasN c0.toNat) (b.drop 1) = none := by rw [← hinv, show 4 - i = (3 - i) + 1 from by omega]; exact decFrom_none he (part_nil hz)
         have hE : wdE b = 14 := by rw [hwd, hN]
         refine region_wl ?_
         refine dr (.agg #[(iI 0), Zn, Zn, Zn, Zn]) (ex_build (bmap0) (by kernel_rfl)) ?_
         refine sW 1 S43 (size_27) fun w145 S146 => ?_
         simp only [pq]
         refine dy ?_
         refine wl_nil (hK144 _ _ ?_)
         refine wp_ret ?_
         (try simp only [Exit.then, Exit.inBlock, ↓reduceIte, Nat.reduceEqDiff])
         refine bR (res_ct rfl ⟨_, rfl, lR S146 1 Tryz.underlying27 (size_27)⟩ (gD rfl)) ?_
         ·exact ⟨_, _, rfl, S146.gr, decQ_bad hE (by decide)⟩
        ·obtain ⟨c1, hc1⟩ : ∃ c, rest[0]? = some c := ⟨rest[0], List.getElem?_eq_getElem (by omega)⟩
         have hb9 := UInt8.toNat_lt c1
         obtain ⟨b147, o148, ha149, c150⟩ := Bs.get hrest hc1
         refine region_wl ?_
         refine dx ?_
         refine dn Tryz.underlying25 ?_
         refine eqlF ?_
         simp only [pq]
         iterate 2 refine dx ?_
         refine dn Tryz.underlying25 ?_
         simp only [pq]
         refine dx ?_
         refine dr (pP b147 (o148 + 0 * 1)) (ex_at (i := 0) (sz := 1) Tryz.underlying25 (sizeof_5 _) rfl ha149 rfl (by omega) rfl) ?_
         refine dr _ (ex_load rfl (load1 (nagg_5 _) (St.fz S43 c150))) ?_
         simp only [pq]
         refine dr (nI c1.toNat) (ex_convert (v := (bv c1)) rfl (conv_int c1 _)) ?_
         refine dAdd (1 + c1.toNat) ?_
         simp only [pq]
         by_cases hc62 : rn < (1 + c1.toNat)
         ·refine lssT ?_
          refine dp ?_
          refine wl_nil (hK143 _ _ ?_)
          refine wp_cond_true rfl ?_
          refine wp_seq_k (fun K151 hK151 => ?_)
          have hN : decW (hasN c0.toNat) (b.drop 1) = none := by rw [← hinv, show 4 - i = (3 - i) + 1 from by omega]; exact decFrom_none he (part_short hc1 (by omega))
          have hE : wdE b = 14 := by rw [hwd, hN]
          refine region_wl ?_
          refine dr (.agg #[(iI 0), Zn, Zn, Zn, Zn]) (ex_build (bmap0) (by kernel_rfl)) ?_
          simp only [pq]
          refine sW 1 S43 (size_27) fun w152 S153 => ?_
          refine dy ?_
          refine wl_nil (hK151 _ _ ?_)
          refine wp_ret ?_
          (try simp only [Exit.then, Exit.inBlock, ↓reduceIte, Nat.reduceEqDiff])
          refine bR (res_ct rfl ⟨_, rfl, lR S153 1 Tryz.underlying27 (size_27)⟩ (gD rfl)) ?_
          ·exact ⟨_, _, rfl, S153.gr, decQ_bad hE (by decide)⟩
         ·refine lssF ?_
          refine dp ?_
          simp only [pq]
          refine wl_nil (hK143 _ _ ?_)
          refine wp_cond_false rfl ?_
          refine wp_skip ?_
          refine hK142 _ _ ?_
          refine sk fun K154 hK154 => ?_
          refine dx ?_
          refine dr (pP b147 (o148 + 0 * 1)) (ex_at (i := 0) (sz := 1) Tryz.underlying25 (sizeof_5 _) rfl ha149 rfl (by omega) rfl) ?_
          refine dr _ (ex_load rfl (load1 (nagg_5 _) (St.fz S43 c150))) ?_
          simp only [pq]
          refine dr (nI c1.toNat) (ex_convert (v := (bv c1)) rfl (conv_int c1 _)) ?_
          refine dAdd (1 + c1.toNat) ?_
          refine dy ?_
          simp only [pq]
          refine wn hK154 ?_
          refine sk fun K155 hK155 => ?_
          iterate 3 refine dx ?_
          simp only [pq]
          have r156 : Bs _ (.slice ra (1 + c1.toNat) rc) (rest.take (1 + c1.toNat)) := bs_of_sl (Sl.takeN (m := (1 + c1.toNat)) (Bs.sl hrest) (by omega))
          have r156 : Bs _ (.slice (if rc = 1 then ra else ra.map (·.add (1 * 1))) ((1 + c1.toNat) - 1) (rc - 1)) ((rest.take (1 + c1.toNat)).drop 1) := Bs.rest r156 (by omega)
          refine dr (.slice (if rc = 1 then ra else ra.map (·.add (1 * 1))) ((1 + c1.toNat) - 1) (rc - 1)) (ex_slice (l := 1) (h := (1 + c1.toNat)) (sz := 1) Tryz.underlying25 rfl (sizeof_5 _) (.inr ⟨_, rfl, rfl⟩) (.inr ⟨_, rfl, rfl⟩) (by omega) (by omega) (rfl)) ?_
          refine stGives S43 rfl (fn1 (ent_45 _ _)) (clone_spec _ _ _ ((rest.take (1 + c1.toNat)).drop 1) (S43).sat r156 (by simp only [List.length_drop, List.length_take]; omega)) ?_
          intro v162 w157 F159 S158 le160 R161
          obtain ⟨xa163, xc164, rfl, _⟩ := R161.shape
          refine di ?_
          refine sW 0 S158 (size_25) fun w165 S166 => ?_
          simp only [pq]
          refine wn hK155 ?_
          refine region_wl ?_
          iterate 2 refine dx ?_
          simp only [pq]
          have r167 : Bs _ (.slice (if rc = (1 + c1.toNat) then ra else ra.map (·.add ((1 + c1.toNat) * 1))) (rn - (1 + c1.toNat)) (rc - (1 + c1.toNat))) (rest.drop (1 + c1.toNat)) := Bs.rest (hrest.mono le160) (by omega)
          refine dr (.slice (if rc = (1 + c1.toNat) then ra else ra.map (·.add ((1 + c1.toNat) * 1))) (rn - (1 + c1.toNat)) (rc - (1 + c1.toNat))) (ex_slice (l := (1 + c1.toNat)) (h := rn) (sz := 1) Tryz.underlying25 rfl (sizeof_5 _) (.inr ⟨_, rfl, rfl⟩) (.inl ⟨rfl, rfl⟩) (by omega) (by omega) (rfl)) ?_
          refine dy ?_
          refine wl_nil (hK48 _ _ ?_)
          refine region_wl ?_
          refine dAdd (i + 1) ?_
          refine dx ?_
          simp only [pq]
          refine wl_nil ?_
          exact hK45 _ _ _ (by omega) ⟨(i + 1), (⟨r.name, r.key, r.last, ((rest.take (1 + c1.toNat)).drop 1)⟩ : Rq), a0, e0, a1, e1, a2, e2, xa163, xc164, (if rc = (1 + c1.toNat) then ra else ra.map (·.add ((1 + c1.toNat) * 1))), (rn - (1 + c1.toNat)), (rc - (1 + c1.toNat)), (rest.drop (1 + c1.toNat)), F159, _, rfl, rfl, rfl, S166, (le44.trans le160), (by omega), (hf0.mono le160), (hf1.mono le160), (hf2.mono le160), R161, r167, (by simp only [List.length_drop]; omega), (by subst h4; rw [← hinv]; exact (decFrom_some (n := 0) he (part_long hc1 (by omega))).symm)⟩
       ·have he : (hasN c0.toNat).testBit i = false := by simpa using he
        have hx := bit_no he
        have hrn := hrest.len
        have hcap : rest.length ≤ rc := by obtain ⟨_, _, e, q, _⟩ := hrest.shape; injection e with _ _ e; rw [e]; exact q
        refine region_wl ?_
        refine dx ?_
        refine dr (pP n20 4) (ex_indexV (i := i) Tryz.underlying151 (sizeof_150 _) rfl rfl (by omega) (nagg_150 _) (by rw [h4]; rfl)) ?_
        refine dy ?_
        simp only [pq]
        refine dy ?_
        refine wl_nil (hK49 _ _ ?_)
        refine wp_seq_k (fun K168 hK168 => ?_)
        refine sk fun K169 hK169 => ?_
        refine df (fa_27_0 _ _) ?_
        refine dl (nagg_3 _) S43 0 ?_
        refine dr (pP 0 (c0.toNat)) (ex_atArr (i := c0.toNat) Tryz.underlying92 (sizeof_3 _) rfl rfl (by omega)) ?_
        simp only [pq]
        refine dr _ (ex_load rfl (load1 (nagg_3 _) (has_at (hh.below S43.gr.below) hk))) ?_
        refine dx ?_
        refine dr (nI ((hasN c0.toNat) / 2 ^ i)) (ex_shrI (m := (hasN c0.toNat)) (n := i) rfl rfl (by omega)) ?_
        simp only [pq]
        refine dr (.int .i64 (((((hasN c0.toNat) / 2 ^ i) % 2) : Nat) : Int)) (ex_andOne (m := ((hasN c0.toNat) / 2 ^ i)) rfl rfl) ?_
        refine dr bT (ex_eql (m := (((((hasN c0.toNat) / 2 ^ i) % 2) : Nat) : Int)) (n := (0 : Int)) (b := true) rfl rfl (beq_iff_eq.2 (by rw [hx]; rfl))) ?_
        refine wn hK169 ?_
        refine wp_cond_true rfl ?_
        refine wp_exit ?_
        refine hK48 _ _ ?_
        refine region_wl ?_
        refine dAdd (i + 1) ?_
        refine dx ?_
        simp only [pq]
        refine wl_nil ?_
        exact hK45 _ _ _ (by omega) ⟨(i + 1), r, a0, e0, a1, e1, a2, e2, a3, e3, ra, rn, rc, rest, F37, _, rfl, rfl, rfl, S43, le44, (by omega), hf0, hf1, hf2, hf3, hrest, (by omega), (by subst h4; rw [← hinv]; exact (decFrom_no (n := 0) he).symm)⟩
     ·refine lssF ?_
      refine wn hK46 ?_
      refine wp_seq_k (fun K170 hK170 => ?_)
      refine wp_cond_false rfl ?_
      refine wp_exit ?_
      refine hK35 _ _ ?_
      refine wp_seq_k (fun K171 hK171 => ?_)
      refine wp_seq_k (fun K172 hK172 => ?_)
      have hrn := hrest.len
      have hi5 : i = 4 := by omega
      have hD : decW (hasN c0.toNat) (b.drop 1) = some (r, rest) := by rw [← hinv, hi5]; rfl
      rw [hD] at hwd
      have hwd : wdE b = if 0 < rest.length then 4 else wireN c0.toNat r.name.length r.key.length r.last.length r.value.length := hwd
      refine region_wl ?_
      refine dx ?_
      refine dn Tryz.underlying25 ?_
      simp only [pq]
      by_cases hc82 : 0 < rn
      ·refine gtrT ?_
       refine wl_nil (hK172 _ _ ?_)
       refine wp_cond_true rfl ?_
       refine wp_seq_k (fun K173 hK173 => ?_)
       have hE : wdE b = 4 := by rw [hwd, if_pos (by omega)]
       refine region_wl ?_
       refine dr (.agg #[(iI 0), Zn, Zn, Zn, Zn]) (ex_build (bmap0) (by kernel_rfl)) ?_
       refine sW 1 S43 (size_27) fun w174 S175 => ?_
       simp only [pq]
       refine dy ?_
       refine wl_nil (hK173 _ _ ?_)
       refine wp_ret ?_
       (try simp only [Exit.then, Exit.inBlock, ↓reduceIte, Nat.reduceEqDiff])
       refine bR (res_ct rfl ⟨_, rfl, lR S175 1 Tryz.underlying27 (size_27)⟩ (gD rfl)) ?_
       ·exact ⟨_, _, rfl, S175.gr, decQ_bad hE (by decide)⟩
      ·refine gtrF ?_
       refine wl_nil (hK172 _ _ ?_)
       refine wp_cond_false rfl ?_
       refine wp_skip ?_
       refine hK171 _ _ ?_
       refine wp_seq_k (fun K176 hK176 => ?_)
       refine wp_seq_k (fun K177 hK177 => ?_)
       rw [if_neg (by omega)] at hwd
       refine region_wl ?_
       refine dR S43 0 Tryz.underlying27 (size_27) ?_
       simp only [pq]
       refine stTells (v := (.int .i64 (wireN c0.toNat r.name.length r.key.length r.last.length r.value.length))) S43 rfl (fn1 (ent_41 _ _)) (wireCheck_spec _ _ _ c0.toNat r.name r.key r.last r.value (by omega) (by omega) (hh.below S43.gr.below) ⟨_, _, _, _, rfl, hf0, hf1, hf2, hf3⟩) (fun w178 S179 => ?_)
       refine dy ?_
       refine wl_nil (hK177 _ _ ?_)
       refine sk fun K180 hK180 => ?_
       refine dx ?_
       simp only [pq]
       by_cases hc87 : (wireN c0.toNat r.name.length r.key.length r.last.length r.value.length) = (0 : Int)
       ·refine neqF ?_
        refine wn hK180 ?_
        refine wp_cond_false rfl ?_
        refine wp_skip ?_
        refine hK176 _ _ ?_
        refine sk fun K181 hK181 => ?_
        refine dR S179 0 Tryz.underlying27 (size_27) ?_
        refine sW 1 S179 (size_27) fun w182 S183 => ?_
        simp only [pq]
        refine dy ?_
        refine wn hK181 ?_
        refine wp_ret ?_
        (try simp only [Exit.then, Exit.inBlock, ↓reduceIte, Nat.reduceEqDiff])
        refine bR (res_ct rfl ⟨_, rfl, lR S183 1 Tryz.underlying27 (size_27)⟩ (gD rfl)) ?_
        ·exact ⟨_, _, rfl, S183.gr, by unfold DecQ; rw [wd_rq hc0 (hwd.trans (by omega)) hD, hwd.trans (show _ = (0 : Int) by omega)]; exact ⟨_, rfl, _, _, _, _, rfl, hf0, hf1, hf2, hf3⟩⟩
       ·refine neqT ?_
        refine wn hK180 ?_
        refine wp_cond_true rfl ?_
        refine sk fun K184 hK184 => ?_
        refine dr (.agg #[(iI 0), Zn, Zn, Zn, Zn]) (ex_build (bmap0) (by kernel_rfl)) ?_
        refine dx ?_
        simp only [pq]
        refine sW 1 S179 (size_27) fun w185 S186 => ?_
        refine dy ?_
        refine wn hK184 ?_
        refine wp_ret ?_
        (try simp only [Exit.then, Exit.inBlock, ↓reduceIte, Nat.reduceEqDiff])
        refine bR (res_ct rfl ⟨_, rfl, lR S186 1 Tryz.underlying27 (size_27)⟩ (gD rfl)) ?_
        ·exact ⟨_, _, rfl, S186.gr, decQ_bad hwd (by omega)⟩
theorem wireDecIs_spec (F : Fz) (w : World) (v : Value) (b : By) {e : Int} {k : Nat} {r : Rq} (hs : Sat w F) (hh : Has w) (hb : Bs F v b) (he : wdE b = e) (hr : wdR b = (k, r)) :
    Calls Tryz.prog 77 #[v] w (Gives w F fun F' u => ∃ x, u = .tuple #[x, .int .i64 e] ∧ ReqV F' x ((k : Nat) : Int) r.name r.key r.last r.value) := by
 have := wireDecode_spec F w v b hs hh hb
 unfold DecQ at this
 rw [he, hr] at this
 exact this
end Go.Proofs.YtilgpdpooildcaaGreatDoor
