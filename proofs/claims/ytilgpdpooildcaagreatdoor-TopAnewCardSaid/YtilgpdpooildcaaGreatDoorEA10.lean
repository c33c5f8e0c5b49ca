/- Rules, plain laws and walks: W1 W2 W3 PW WQ1 WQ2 WQ3 -/
import Derived.Test.YtilgpdpooildcaaGreatDoorEA7
namespace Go.Proofs.YtilgpdpooildcaaGreatDoor
set_option maxHeartbeats 8000000
open Go.RowKit
set_option maxRecDepth 100000
set_option linter.unusedVariables false
def RK : List Int := [0, 0, 3, 7, 11, 3, 0, 0, 3]
def Has (w : World) : Prop := ∀ i (hi : i < RK.length), w.cell? ⟨0, i, none⟩ = some (.int .i64 RK[i])
def jA (h : Nat) (n y l v : Nat) : Int :=
  if h.testBit 0 ∧ ¬ (1 ≤ n ∧ n ≤ 8) then 1 else if h.testBit 0 ∧ ¬ (1 ≤ y ∧ y ≤ 16) then 1 else if h.testBit 2 ∧ ¬ (1 ≤ l ∧ l ≤ 16) then 1 else if 32 < v then 1
  else if (¬ h.testBit 0 ∧ 0 < n) ∨ (¬ h.testBit 1 ∧ 0 < y) ∨ (¬ h.testBit 2 ∧ 0 < l) ∨ (¬ h.testBit 3 ∧ 0 < v) then 4 else 0
theorem uJ (w : World) (k : Nat) (k1 : 1 ≤ k) (k8 : k ≤ 8) (hg : 0 < w.heap.size) (hc : w.cell? ⟨0, k, none⟩ = some (.int .i64 0))
    (a0 a1 a2 a3 : Option Addr) (n y l v c0 c1 c2 c3 : Nat) (bn : n ≤ 9223372036854775807) (by' : y ≤ 9223372036854775807) (bl : l ≤ 9223372036854775807) (bv' : v ≤ 9223372036854775807) (hyc : y ≤ c1) (hyc' : c1 ≤ maxLen) (hlc : l ≤ c2) (hlc' : c2 ≤ maxLen) :
    Calls Tryz.prog 41 #[.agg #[.int .i64 k, .slice a0 n c0, .slice a1 y c1, .slice a2 l c2, .slice a3 v c3]] w (cT w (.int .i64 (jA 0 n y l v))) := by
 have HA : Hid (jA 0 n y l v = if 32 < v then 1 else if 0 < n ∨ 0 < y ∨ 0 < l ∨ 0 < v then 4 else 0) := by
  unfold Hid jA
  rw [show (0 : Nat).testBit 0 = false from rfl, show (0 : Nat).testBit 1 = false from rfl, show (0 : Nat).testBit 2 = false from rfl, show (0 : Nat).testBit 3 = false from rfl]
  simp
 generalize jA 0 n y l v = r at *
 have ix0 : ∀ (X : World) (n' y' l' v' : Nat), (Instr.index 91 (.agg #[.slice a0 n' c0, .slice a1 y' c1, .slice a2 l' c2, .slice a3 v' c3]) (.int .i64 0)).run Tryz.prog X = .ok (.slice a0 n' c0) X := fun _ _ _ _ _ => by kernel_rfl
 have ix1 : ∀ (X : World) (n' y' l' v' : Nat), (Instr.index 91 (.agg #[.slice a0 n' c0, .slice a1 y' c1, .slice a2 l' c2, .slice a3 v' c3]) (.int .i64 1)).run Tryz.prog X = .ok (.slice a1 y' c1) X := fun _ _ _ _ _ => by kernel_rfl
 have ix2 : ∀ (X : World) (n' y' l' v' : Nat), (Instr.index 91 (.agg #[.slice a0 n' c0, .slice a1 y' c1, .slice a2 l' c2, .slice a3 v' c3]) (.int .i64 2)).run Tryz.prog X = .ok (.slice a2 l' c2) X := fun _ _ _ _ _ => by kernel_rfl
 have ix3 : ∀ (X : World) (n' y' l' v' : Nat), (Instr.index 91 (.agg #[.slice a0 n' c0, .slice a1 y' c1, .slice a2 l' c2, .slice a3 v' c3]) (.int .i64 3)).run Tryz.prog X = .ok (.slice a3 v' c3) X := fun _ _ _ _ _ => by kernel_rfl
 go_enter Tryz.func41, Tryz.ntmps41
 go_wp2_with fail
 ·go_ret
  exact ⟨lD (Eq.symm (HA.out.trans (by first | rw [zZb (by omega)] | rw [zZa (by omega), zZb (by omega)] | rw [zZa (by omega), zZa (by omega)]))), (Below.refl _ _).alloc (zZe _) _⟩
 ·go_loop [58] (fun t => ∃ i : Nat, i ≤ 4 ∧ t = .int .i64 i ∧ (0 < i → n = 0) ∧ (1 < i → y = 0) ∧ (2 < i → l = 0) ∧ (3 < i → v = 0)) (fun t => 4 - (intOf t).toNat)
  case atStart => exact ⟨0, by omega, rfl, by omega⟩
  case round =>
   obtain ⟨i, hi, rfl, hok⟩ := hrel
   have HOK := hid hok
   clear hok
   rcases (by omega : i = 0 ∨ i = 1 ∨ i = 2 ∨ i = 3 ∨ i = 4) with rfl | rfl | rfl | rfl | rfl
   all_goals
    go_wp2_with fail
   all_goals first
    | exact ⟨⟨1, by omega, rfl, (by have h := HOK.out; omega)⟩, by simp [intOf]⟩
    | exact ⟨⟨_, _, _, _, ⟨1, by omega, rfl, (by have h := HOK.out; omega)⟩, rfl, rfl, rfl, rfl⟩, by simp [intOf]⟩
    | exact ⟨⟨2, by omega, rfl, (by have h := HOK.out; omega)⟩, by simp [intOf]⟩
    | exact ⟨⟨_, _, _, _, ⟨2, by omega, rfl, (by have h := HOK.out; omega)⟩, rfl, rfl, rfl, rfl⟩, by simp [intOf]⟩
    | exact ⟨⟨3, by omega, rfl, (by have h := HOK.out; omega)⟩, by simp [intOf]⟩
    | exact ⟨⟨_, _, _, _, ⟨3, by omega, rfl, (by have h := HOK.out; omega)⟩, rfl, rfl, rfl, rfl⟩, by simp [intOf]⟩
    | exact ⟨⟨4, by omega, rfl, (by have h := HOK.out; omega)⟩, by simp [intOf]⟩
    | exact ⟨⟨_, _, _, _, ⟨4, by omega, rfl, (by have h := HOK.out; omega)⟩, rfl, rfl, rfl, rfl⟩, by simp [intOf]⟩
    | (go_ret; have h := HOK.out; exact ⟨lD (Eq.symm (HA.out.trans (by first | rw [zZb (by omega)] | rw [zZa (by omega), zZb (by omega)] | rw [zZa (by omega), zZa (by omega)]))), (Below.refl _ _).alloc (zZe _) _⟩)
theorem uK (w : World) (k : Nat) (k1 : 1 ≤ k) (k8 : k ≤ 8) (hg : 0 < w.heap.size) (hc : w.cell? ⟨0, k, none⟩ = some (.int .i64 3))
    (a0 a1 a2 a3 : Option Addr) (n y l v c0 c1 c2 c3 : Nat) (bn : n ≤ 9223372036854775807) (by' : y ≤ 9223372036854775807) (bl : l ≤ 9223372036854775807) (bv' : v ≤ 9223372036854775807) (hyc : y ≤ c1) (hyc' : c1 ≤ maxLen) (hlc : l ≤ c2) (hlc' : c2 ≤ maxLen) :
    Calls Tryz.prog 41 #[.agg #[.int .i64 k, .slice a0 n c0, .slice a1 y c1, .slice a2 l c2, .slice a3 v c3]] w (cT w (.int .i64 (jA 3 n y l v))) := by
 have HA : Hid (jA 3 n y l v = if ¬ (1 ≤ n ∧ n ≤ 8) then 1 else if ¬ (1 ≤ y ∧ y ≤ 16) then 1 else if 32 < v then 1 else if 0 < l ∨ 0 < v then 4 else 0) := by
  unfold Hid jA
  rw [show (3 : Nat).testBit 0 = true from rfl, show (3 : Nat).testBit 1 = true from rfl, show (3 : Nat).testBit 2 = false from rfl, show (3 : Nat).testBit 3 = false from rfl]
  simp
 generalize jA 3 n y l v = r at *
 have ix0 : ∀ (X : World) (n' y' l' v' : Nat), (Instr.index 91 (.agg #[.slice a0 n' c0, .slice a1 y' c1, .slice a2 l' c2, .slice a3 v' c3]) (.int .i64 0)).run Tryz.prog X = .ok (.slice a0 n' c0) X := fun _ _ _ _ _ => by kernel_rfl
 have ix1 : ∀ (X : World) (n' y' l' v' : Nat), (Instr.index 91 (.agg #[.slice a0 n' c0, .slice a1 y' c1, .slice a2 l' c2, .slice a3 v' c3]) (.int .i64 1)).run Tryz.prog X = .ok (.slice a1 y' c1) X := fun _ _ _ _ _ => by kernel_rfl
 have ix2 : ∀ (X : World) (n' y' l' v' : Nat), (Instr.index 91 (.agg #[.slice a0 n' c0, .slice a1 y' c1, .slice a2 l' c2, .slice a3 v' c3]) (.int .i64 2)).run Tryz.prog X = .ok (.slice a2 l' c2) X := fun _ _ _ _ _ => by kernel_rfl
 have ix3 : ∀ (X : World) (n' y' l' v' : Nat), (Instr.index 91 (.agg #[.slice a0 n' c0, .slice a1 y' c1, .slice a2 l' c2, .slice a3 v' c3]) (.int .i64 3)).run Tryz.prog X = .ok (.slice a3 v' c3) X := fun _ _ _ _ _ => by kernel_rfl
 by_cases q0 : 1 ≤ n ∧ n ≤ 8
 case neg =>
  have h0 := hid (vB q0)
  go_enter Tryz.func41, Tryz.ntmps41
  go_wp2_with (go_at_call 42; refine (iC _ _ _ _).mono ?_; rw [h0.out]; rintro e w' ⟨rfl, rfl⟩)
  go_ret
  exact ⟨lD (Eq.symm (HA.out.trans (by first | rw [zZb (by omega)] | rw [zZa (by omega), zZb (by omega)] | rw [zZa (by omega), zZa (by omega), zZb (by omega)] | rw [zZa (by omega), zZa (by omega), zZa (by omega), zZb (by omega)] | rw [zZa (by omega), zZa (by omega), zZa (by omega), zZa (by omega)]))), (Below.refl _ _).alloc (zZe _) _⟩
 by_cases q1 : 1 ≤ y ∧ y ≤ 16
 case neg =>
  have h0 := hid (kT q0.1 q0.2)
  have h1 := hid (oH q1)
  go_enter Tryz.func41, Tryz.ntmps41
  go_wp2_with (first | (go_at_call 42; refine (iC _ _ _ _).mono ?_; rw [h0.out]; rintro e w' ⟨rfl, rfl⟩) | (go_at_call 55; refine (jH _ _ _ _ hyc hyc').mono ?_; rw [h1.out]; rintro e w' ⟨rfl, rfl⟩))
  go_ret
  exact ⟨lD (Eq.symm (HA.out.trans (by first | rw [zZb (by omega)] | rw [zZa (by omega), zZb (by omega)] | rw [zZa (by omega), zZa (by omega), zZb (by omega)] | rw [zZa (by omega), zZa (by omega), zZa (by omega), zZb (by omega)] | rw [zZa (by omega), zZa (by omega), zZa (by omega), zZa (by omega)]))), (Below.refl _ _).alloc (zZe _) _⟩
 have h0 := hid (kT q0.1 q0.2)
 have h1 := hid (gZ q1.1 q1.2)
 go_enter Tryz.func41, Tryz.ntmps41
 go_wp2_with fail
 refine (iC _ _ _ _).mono ?_; rw [h0.out]; rintro e w' ⟨rfl, rfl⟩
 go_wp2_with fail
 refine (jH _ _ _ _ hyc hyc').mono ?_; rw [h1.out]; rintro e w' ⟨rfl, rfl⟩
 go_wp2_with fail
 ·go_ret
  exact ⟨lD (Eq.symm (HA.out.trans (by first | rw [zZb (by omega)] | rw [zZa (by omega), zZb (by omega)] | rw [zZa (by omega), zZa (by omega), zZb (by omega)] | rw [zZa (by omega), zZa (by omega), zZa (by omega), zZb (by omega)] | rw [zZa (by omega), zZa (by omega), zZa (by omega), zZa (by omega)]))), (Below.refl _ _).alloc (zZe _) _⟩
 ·go_loop [58] (fun t => ∃ i : Nat, i ≤ 4 ∧ t = .int .i64 i ∧ (2 < i → l = 0) ∧ (3 < i → v = 0)) (fun t => 4 - (intOf t).toNat)
  case atStart => exact ⟨0, by omega, rfl, by omega⟩
  case round =>
   obtain ⟨i, hi, rfl, hok⟩ := hrel
   have HOK := hid hok
   clear hok
   rcases (by omega : i = 0 ∨ i = 1 ∨ i = 2 ∨ i = 3 ∨ i = 4) with rfl | rfl | rfl | rfl | rfl
   all_goals
    go_wp2_with fail
   all_goals first
    | exact ⟨⟨1, by omega, rfl, (by have h := HOK.out; omega)⟩, by simp [intOf]⟩
    | exact ⟨⟨_, _, _, _, ⟨1, by omega, rfl, (by have h := HOK.out; omega)⟩, rfl, rfl, rfl, rfl⟩, by simp [intOf]⟩
    | exact ⟨⟨2, by omega, rfl, (by have h := HOK.out; omega)⟩, by simp [intOf]⟩
    | exact ⟨⟨_, _, _, _, ⟨2, by omega, rfl, (by have h := HOK.out; omega)⟩, rfl, rfl, rfl, rfl⟩, by simp [intOf]⟩
    | exact ⟨⟨3, by omega, rfl, (by have h := HOK.out; omega)⟩, by simp [intOf]⟩
    | exact ⟨⟨_, _, _, _, ⟨3, by omega, rfl, (by have h := HOK.out; omega)⟩, rfl, rfl, rfl, rfl⟩, by simp [intOf]⟩
    | exact ⟨⟨4, by omega, rfl, (by have h := HOK.out; omega)⟩, by simp [intOf]⟩
    | exact ⟨⟨_, _, _, _, ⟨4, by omega, rfl, (by have h := HOK.out; omega)⟩, rfl, rfl, rfl, rfl⟩, by simp [intOf]⟩
    | (go_ret; have h := HOK.out; exact ⟨lD (Eq.symm (HA.out.trans (by first | rw [zZb (by omega)] | rw [zZa (by omega), zZb (by omega)] | rw [zZa (by omega), zZa (by omega), zZb (by omega)] | rw [zZa (by omega), zZa (by omega), zZa (by omega), zZb (by omega)] | rw [zZa (by omega), zZa (by omega), zZa (by omega), zZa (by omega)]))), (Below.refl _ _).alloc (zZe _) _⟩)
theorem OB (w : World) (k : Nat) (k1 : 1 ≤ k) (k8 : k ≤ 8) (hg : 0 < w.heap.size) (hc : w.cell? ⟨0, k, none⟩ = some (.int .i64 7))
    (a0 a1 a2 a3 : Option Addr) (n y l v c0 c1 c2 c3 : Nat) (bn : n ≤ 9223372036854775807) (by' : y ≤ 9223372036854775807) (bl : l ≤ 9223372036854775807) (bv' : v ≤ 9223372036854775807) (hyc : y ≤ c1) (hyc' : c1 ≤ maxLen) (hlc : l ≤ c2) (hlc' : c2 ≤ maxLen) :
    Calls Tryz.prog 41 #[.agg #[.int .i64 k, .slice a0 n c0, .slice a1 y c1, .slice a2 l c2, .slice a3 v c3]] w (cT w (.int .i64 (jA 7 n y l v))) := by
 have HA : Hid (jA 7 n y l v = if ¬ (1 ≤ n ∧ n ≤ 8) then 1 else if ¬ (1 ≤ y ∧ y ≤ 16) then 1 else if ¬ (1 ≤ l ∧ l ≤ 16) then 1 else if 32 < v then 1 else if 0 < v then 4 else 0) := by
  unfold Hid jA
  rw [show (7 : Nat).testBit 0 = true from rfl, show (7 : Nat).testBit 1 = true from rfl, show (7 : Nat).testBit 2 = true from rfl, show (7 : Nat).testBit 3 = false from rfl]
  simp
 generalize jA 7 n y l v = r at *
 have ix0 : ∀ (X : World) (n' y' l' v' : Nat), (Instr.index 91 (.agg #[.slice a0 n' c0, .slice a1 y' c1, .slice a2 l' c2, .slice a3 v' c3]) (.int .i64 0)).run Tryz.prog X = .ok (.slice a0 n' c0) X := fun _ _ _ _ _ => by kernel_rfl
 have ix1 : ∀ (X : World) (n' y' l' v' : Nat), (Instr.index 91 (.agg #[.slice a0 n' c0, .slice a1 y' c1, .slice a2 l' c2, .slice a3 v' c3]) (.int .i64 1)).run Tryz.prog X = .ok (.slice a1 y' c1) X := fun _ _ _ _ _ => by kernel_rfl
 have ix2 : ∀ (X : World) (n' y' l' v' : Nat), (Instr.index 91 (.agg #[.slice a0 n' c0, .slice a1 y' c1, .slice a2 l' c2, .slice a3 v' c3]) (.int .i64 2)).run Tryz.prog X = .ok (.slice a2 l' c2) X := fun _ _ _ _ _ => by kernel_rfl
 have ix3 : ∀ (X : World) (n' y' l' v' : Nat), (Instr.index 91 (.agg #[.slice a0 n' c0, .slice a1 y' c1, .slice a2 l' c2, .slice a3 v' c3]) (.int .i64 3)).run Tryz.prog X = .ok (.slice a3 v' c3) X := fun _ _ _ _ _ => by kernel_rfl
 by_cases q0 : 1 ≤ n ∧ n ≤ 8
 case neg =>
  have h0 := hid (vB q0)
  go_enter Tryz.func41, Tryz.ntmps41
  go_wp2_with (go_at_call 42; refine (iC _ _ _ _).mono ?_; rw [h0.out]; rintro e w' ⟨rfl, rfl⟩)
  go_ret
  exact ⟨lD (Eq.symm (HA.out.trans (by first | rw [zZb (by omega)] | rw [zZa (by omega), zZb (by omega)] | rw [zZa (by omega), zZa (by omega), zZb (by omega)] | rw [zZa (by omega), zZa (by omega), zZa (by omega), zZb (by omega)] | rw [zZa (by omega), zZa (by omega), zZa (by omega), zZa (by omega), zZb (by omega)] | rw [zZa (by omega), zZa (by omega), zZa (by omega), zZa (by omega), zZa (by omega)]))), (Below.refl _ _).alloc (zZe _) _⟩
 by_cases q1 : 1 ≤ y ∧ y ≤ 16
 case neg =>
  have h0 := hid (kT q0.1 q0.2)
  have h1 := hid (oH q1)
  go_enter Tryz.func41, Tryz.ntmps41
  go_wp2_with (first | (go_at_call 42; refine (iC _ _ _ _).mono ?_; rw [h0.out]; rintro e w' ⟨rfl, rfl⟩) | (go_at_call 55; refine (jH _ _ _ _ hyc hyc').mono ?_; rw [h1.out]; rintro e w' ⟨rfl, rfl⟩))
  go_ret
  exact ⟨lD (Eq.symm (HA.out.trans (by first | rw [zZb (by omega)] | rw [zZa (by omega), zZb (by omega)] | rw [zZa (by omega), zZa (by omega), zZb (by omega)] | rw [zZa (by omega), zZa (by omega), zZa (by omega), zZb (by omega)] | rw [zZa (by omega), zZa (by omega), zZa (by omega), zZa (by omega), zZb (by omega)] | rw [zZa (by omega), zZa (by omega), zZa (by omega), zZa (by omega), zZa (by omega)]))), (Below.refl _ _).alloc (zZe _) _⟩
 have h0 := hid (kT q0.1 q0.2)
 have h1 := hid (gZ q1.1 q1.2)
 by_cases q2 : 1 ≤ l ∧ l ≤ 16
 case neg =>
  have h2 := hid (oH q2)
  go_enter Tryz.func41, Tryz.ntmps41
  go_wp2_with fail
  refine (iC _ _ _ _).mono ?_; rw [h0.out]; rintro e w' ⟨rfl, rfl⟩
  go_wp2_with fail
  refine (jH _ _ _ _ hyc hyc').mono ?_; rw [h1.out]; rintro e w' ⟨rfl, rfl⟩
  go_wp2_with fail
  refine (jH _ _ _ _ hlc hlc').mono ?_; rw [h2.out]; rintro e w' ⟨rfl, rfl⟩
  go_wp2_with fail
  go_ret
  exact ⟨lD (Eq.symm (HA.out.trans (by first | rw [zZb (by omega)] | rw [zZa (by omega), zZb (by omega)] | rw [zZa (by omega), zZa (by omega), zZb (by omega)] | rw [zZa (by omega), zZa (by omega), zZa (by omega), zZb (by omega)] | rw [zZa (by omega), zZa (by omega), zZa (by omega), zZa (by omega), zZb (by omega)] | rw [zZa (by omega), zZa (by omega), zZa (by omega), zZa (by omega), zZa (by omega)]))), (Below.refl _ _).alloc (zZe _) _⟩
 have h2 := hid (gZ q2.1 q2.2)
 go_enter Tryz.func41, Tryz.ntmps41
 go_wp2_with fail
 refine (iC _ _ _ _).mono ?_; rw [h0.out]; rintro e w' ⟨rfl, rfl⟩
 go_wp2_with fail
 refine (jH _ _ _ _ hyc hyc').mono ?_; rw [h1.out]; rintro e w' ⟨rfl, rfl⟩
 go_wp2_with fail
 refine (jH _ _ _ _ hlc hlc').mono ?_; rw [h2.out]; rintro e w' ⟨rfl, rfl⟩
 go_wp2_with fail
 ·go_ret
  exact ⟨lD (Eq.symm (HA.out.trans (by first | rw [zZb (by omega)] | rw [zZa (by omega), zZb (by omega)] | rw [zZa (by omega), zZa (by omega), zZb (by omega)] | rw [zZa (by omega), zZa (by omega), zZa (by omega), zZb (by omega)] | rw [zZa (by omega), zZa (by omega), zZa (by omega), zZa (by omega), zZb (by omega)] | rw [zZa (by omega), zZa (by omega), zZa (by omega), zZa (by omega), zZa (by omega)]))), (Below.refl _ _).alloc (zZe _) _⟩
 ·go_loop [58] (fun t => ∃ i : Nat, i ≤ 4 ∧ t = .int .i64 i ∧ (3 < i → v = 0)) (fun t => 4 - (intOf t).toNat)
  case atStart => exact ⟨0, by omega, rfl, by omega⟩
  case round =>
   obtain ⟨i, hi, rfl, hok⟩ := hrel
   have HOK := hid hok
   clear hok
   rcases (by omega : i = 0 ∨ i = 1 ∨ i = 2 ∨ i = 3 ∨ i = 4) with rfl | rfl | rfl | rfl | rfl
   all_goals
    go_wp2_with fail
   all_goals first
    | exact ⟨⟨1, by omega, rfl, (by have h := HOK.out; omega)⟩, by simp [intOf]⟩
    | exact ⟨⟨_, _, _, _, ⟨1, by omega, rfl, (by have h := HOK.out; omega)⟩, rfl, rfl, rfl, rfl⟩, by simp [intOf]⟩
    | exact ⟨⟨2, by omega, rfl, (by have h := HOK.out; omega)⟩, by simp [intOf]⟩
    | exact ⟨⟨_, _, _, _, ⟨2, by omega, rfl, (by have h := HOK.out; omega)⟩, rfl, rfl, rfl, rfl⟩, by simp [intOf]⟩
    | exact ⟨⟨3, by omega, rfl, (by have h := HOK.out; omega)⟩, by simp [intOf]⟩
    | exact ⟨⟨_, _, _, _, ⟨3, by omega, rfl, (by have h := HOK.out; omega)⟩, rfl, rfl, rfl, rfl⟩, by simp [intOf]⟩
    | exact ⟨⟨4, by omega, rfl, (by have h := HOK.out; omega)⟩, by simp [intOf]⟩
    | exact ⟨⟨_, _, _, _, ⟨4, by omega, rfl, (by have h := HOK.out; omega)⟩, rfl, rfl, rfl, rfl⟩, by simp [intOf]⟩
    | (go_ret; have h := HOK.out; exact ⟨lD (Eq.symm (HA.out.trans (by first | rw [zZb (by omega)] | rw [zZa (by omega), zZb (by omega)] | rw [zZa (by omega), zZa (by omega), zZb (by omega)] | rw [zZa (by omega), zZa (by omega), zZa (by omega), zZb (by omega)] | rw [zZa (by omega), zZa (by omega), zZa (by omega), zZa (by omega), zZb (by omega)] | rw [zZa (by omega), zZa (by omega), zZa (by omega), zZa (by omega), zZa (by omega)]))), (Below.refl _ _).alloc (zZe _) _⟩)
theorem LB (w : World) (k : Nat) (k1 : 1 ≤ k) (k8 : k ≤ 8) (hg : 0 < w.heap.size) (hc : w.cell? ⟨0, k, none⟩ = some (.int .i64 11))
    (a0 a1 a2 a3 : Option Addr) (n y l v c0 c1 c2 c3 : Nat) (bn : n ≤ 9223372036854775807) (by' : y ≤ 9223372036854775807) (bl : l ≤ 9223372036854775807) (bv' : v ≤ 9223372036854775807) (hyc : y ≤ c1) (hyc' : c1 ≤ maxLen) (hlc : l ≤ c2) (hlc' : c2 ≤ maxLen) :
    Calls Tryz.prog 41 #[.agg #[.int .i64 k, .slice a0 n c0, .slice a1 y c1, .slice a2 l c2, .slice a3 v c3]] w (cT w (.int .i64 (jA 11 n y l v))) := by
 have HA : Hid (jA 11 n y l v = if ¬ (1 ≤ n ∧ n ≤ 8) then 1 else if ¬ (1 ≤ y ∧ y ≤ 16) then 1 else if 32 < v then 1 else if 0 < l then 4 else 0) := by
  unfold Hid jA
  rw [show (11 : Nat).testBit 0 = true from rfl, show (11 : Nat).testBit 1 = true from rfl, show (11 : Nat).testBit 2 = false from rfl, show (11 : Nat).testBit 3 = true from rfl]
  simp
 generalize jA 11 n y l v = r at *
 have ix0 : ∀ (X : World) (n' y' l' v' : Nat), (Instr.index 91 (.agg #[.slice a0 n' c0, .slice a1 y' c1, .slice a2 l' c2, .slice a3 v' c3]) (.int .i64 0)).run Tryz.prog X = .ok (.slice a0 n' c0) X := fun _ _ _ _ _ => by kernel_rfl
 have ix1 : ∀ (X : World) (n' y' l' v' : Nat), (Instr.index 91 (.agg #[.slice a0 n' c0, .slice a1 y' c1, .slice a2 l' c2, .slice a3 v' c3]) (.int .i64 1)).run Tryz.prog X = .ok (.slice a1 y' c1) X := fun _ _ _ _ _ => by kernel_rfl
 have ix2 : ∀ (X : World) (n' y' l' v' : Nat), (Instr.index 91 (.agg #[.slice a0 n' c0, .slice a1 y' c1, .slice a2 l' c2, .slice a3 v' c3]) (.int .i64 2)).run Tryz.prog X = .ok (.slice a2 l' c2) X := fun _ _ _ _ _ => by kernel_rfl
 have ix3 : ∀ (X : World) (n' y' l' v' : Nat), (Instr.index 91 (.agg #[.slice a0 n' c0, .slice a1 y' c1, .slice a2 l' c2, .slice a3 v' c3]) (.int .i64 3)).run Tryz.prog X = .ok (.slice a3 v' c3) X := fun _ _ _ _ _ => by kernel_rfl
 by_cases q0 : 1 ≤ n ∧ n ≤ 8
 case neg =>
  have h0 := hid (vB q0)
  go_enter Tryz.func41, Tryz.ntmps41
  go_wp2_with (go_at_call 42; refine (iC _ _ _ _).mono ?_; rw [h0.out]; rintro e w' ⟨rfl, rfl⟩)
  go_ret
  exact ⟨lD (Eq.symm (HA.out.trans (by first | rw [zZb (by omega)] | rw [zZa (by omega), zZb (by omega)] | rw [zZa (by omega), zZa (by omega), zZb (by omega)] | rw [zZa (by omega), zZa (by omega), zZa (by omega), zZb (by omega)] | rw [zZa (by omega), zZa (by omega), zZa (by omega), zZa (by omega)]))), (Below.refl _ _).alloc (zZe _) _⟩
 by_cases q1 : 1 ≤ y ∧ y ≤ 16
 case neg =>
  have h0 := hid (kT q0.1 q0.2)
  have h1 := hid (oH q1)
  go_enter Tryz.func41, Tryz.ntmps41
  go_wp2_with (first | (go_at_call 42; refine (iC _ _ _ _).mono ?_; rw [h0.out]; rintro e w' ⟨rfl, rfl⟩) | (go_at_call 55; refine (jH _ _ _ _ hyc hyc').mono ?_; rw [h1.out]; rintro e w' ⟨rfl, rfl⟩))
  go_ret
  exact ⟨lD (Eq.symm (HA.out.trans (by first | rw [zZb (by omega)] | rw [zZa (by omega), zZb (by omega)] | rw [zZa (by omega), zZa (by omega), zZb (by omega)] | rw [zZa (by omega), zZa (by omega), zZa (by omega), zZb (by omega)] | rw [zZa (by omega), zZa (by omega), zZa (by omega), zZa (by omega)]))), (Below.refl _ _).alloc (zZe _) _⟩
 have h0 := hid (kT q0.1 q0.2)
 have h1 := hid (gZ q1.1 q1.2)
 go_enter Tryz.func41, Tryz.ntmps41
 go_wp2_with fail
 refine (iC _ _ _ _).mono ?_; rw [h0.out]; rintro e w' ⟨rfl, rfl⟩
 go_wp2_with fail
 refine (jH _ _ _ _ hyc hyc').mono ?_; rw [h1.out]; rintro e w' ⟨rfl, rfl⟩
 go_wp2_with fail
 ·go_ret
  exact ⟨lD (Eq.symm (HA.out.trans (by first | rw [zZb (by omega)] | rw [zZa (by omega), zZb (by omega)] | rw [zZa (by omega), zZa (by omega), zZb (by omega)] | rw [zZa (by omega), zZa (by omega), zZa (by omega), zZb (by omega)] | rw [zZa (by omega), zZa (by omega), zZa (by omega), zZa (by omega)]))), (Below.refl _ _).alloc (zZe _) _⟩
 ·go_loop [58] (fun t => ∃ i : Nat, i ≤ 4 ∧ t = .int .i64 i ∧ (2 < i → l = 0)) (fun t => 4 - (intOf t).toNat)
  case atStart => exact ⟨0, by omega, rfl, by omega⟩
  case round =>
   obtain ⟨i, hi, rfl, hok⟩ := hrel
   have HOK := hid hok
   clear hok
   rcases (by omega : i = 0 ∨ i = 1 ∨ i = 2 ∨ i = 3 ∨ i = 4) with rfl | rfl | rfl | rfl | rfl
   all_goals
    go_wp2_with fail
   all_goals first
    | exact ⟨⟨1, by omega, rfl, (by have h := HOK.out; omega)⟩, by simp [intOf]⟩
    | exact ⟨⟨_, _, _, _, ⟨1, by omega, rfl, (by have h := HOK.out; omega)⟩, rfl, rfl, rfl, rfl⟩, by simp [intOf]⟩
    | exact ⟨⟨2, by omega, rfl, (by have h := HOK.out; omega)⟩, by simp [intOf]⟩
    | exact ⟨⟨_, _, _, _, ⟨2, by omega, rfl, (by have h := HOK.out; omega)⟩, rfl, rfl, rfl, rfl⟩, by simp [intOf]⟩
    | exact ⟨⟨3, by omega, rfl, (by have h := HOK.out; omega)⟩, by simp [intOf]⟩
    | exact ⟨⟨_, _, _, _, ⟨3, by omega, rfl, (by have h := HOK.out; omega)⟩, rfl, rfl, rfl, rfl⟩, by simp [intOf]⟩
    | exact ⟨⟨4, by omega, rfl, (by have h := HOK.out; omega)⟩, by simp [intOf]⟩
    | exact ⟨⟨_, _, _, _, ⟨4, by omega, rfl, (by have h := HOK.out; omega)⟩, rfl, rfl, rfl, rfl⟩, by simp [intOf]⟩
    | (go_ret; have h := HOK.out; exact ⟨lD (Eq.symm (HA.out.trans (by first | rw [zZb (by omega)] | rw [zZa (by omega), zZb (by omega)] | rw [zZa (by omega), zZa (by omega), zZb (by omega)] | rw [zZa (by omega), zZa (by omega), zZa (by omega), zZb (by omega)] | rw [zZa (by omega), zZa (by omega), zZa (by omega), zZa (by omega)]))), (Below.refl _ _).alloc (zZe _) _⟩)
def BG (F : Fz) (v : Value) (kind : Int) (n y l x : List UInt8) : Prop := ∃ a b c d, v = .agg #[.int .i64 kind, a, b, c, d] ∧ Bs F a n ∧ Bs F b y ∧ Bs F c l ∧ Bs F d x
def vY (k : Nat) (n y l v : Nat) : Int := jA (RK.getD k 0).toNat n y l v
theorem uL (F : Fz) (w : World) (v : Value) (k : Nat) (n y l x : List UInt8) (k1 : 1 ≤ k) (k8 : k ≤ 8) (hh : Has w) (hv : BG F v k n y l x) :
    Calls Tryz.prog 41 #[v] w (cT w (.int .i64 (vY k n.length y.length l.length x.length))) := by
 obtain ⟨a, b, c, d, rfl, ha, hb, hc, hd⟩ := hv
 obtain ⟨a0, c0, rfl, e1, e2⟩ := ha.shape
 obtain ⟨a1, c1, rfl, e3, e4⟩ := hb.shape
 obtain ⟨a2, c2, rfl, e5, e6⟩ := hc.shape
 obtain ⟨a3, c3, rfl, e7, e8⟩ := hd.shape
 have f2 := e2
 have f4 := e4
 have f6 := e6
 have f8 := e8
 unfold maxLen at f2 f4 f6 f8
 have hg : 0 < w.heap.size := World.block_lt_of_cell? w ⟨0, 0, none⟩ (hh 0 (by decide))
 have hk := hh k (by simp [RK]; omega)
 unfold vY
 rcases (by omega : k = 1 ∨ k = 2 ∨ k = 3 ∨ k = 4 ∨ k = 5 ∨ k = 6 ∨ k = 7 ∨ k = 8) with rfl | rfl | rfl | rfl | rfl | rfl | rfl | rfl
 ·exact uJ w 1 k1 k8 hg hk _ _ _ _ _ _ _ _ _ _ _ _ (by omega) (by omega) (by omega) (by omega) e3 e4 e5 e6
 ·exact uK w 2 k1 k8 hg hk _ _ _ _ _ _ _ _ _ _ _ _ (by omega) (by omega) (by omega) (by omega) e3 e4 e5 e6
 ·exact OB w 3 k1 k8 hg hk _ _ _ _ _ _ _ _ _ _ _ _ (by omega) (by omega) (by omega) (by omega) e3 e4 e5 e6
 ·exact LB w 4 k1 k8 hg hk _ _ _ _ _ _ _ _ _ _ _ _ (by omega) (by omega) (by omega) (by omega) e3 e4 e5 e6
 ·exact uK w 5 k1 k8 hg hk _ _ _ _ _ _ _ _ _ _ _ _ (by omega) (by omega) (by omega) (by omega) e3 e4 e5 e6
 ·exact uJ w 6 k1 k8 hg hk _ _ _ _ _ _ _ _ _ _ _ _ (by omega) (by omega) (by omega) (by omega) e3 e4 e5 e6
 ·exact uJ w 7 k1 k8 hg hk _ _ _ _ _ _ _ _ _ _ _ _ (by omega) (by omega) (by omega) (by omega) e3 e4 e5 e6
 ·exact uK w 8 k1 k8 hg hk _ _ _ _ _ _ _ _ _ _ _ _ (by omega) (by omega) (by omega) (by omega) e3 e4 e5 e6
set_option linter.unusedSimpArgs false
theorem Has.below {w w' : World} (h : Has w) (hb : Below w.heap.size w w') : Has w' := fun i hi => by
  rw [hb.cell (World.block_lt_of_cell? w ⟨0, i, none⟩ (h i hi))]; exact h i hi
def bJ (k : Nat) : Nat := (RK.getD k 0).toNat
def Rq.part (r : Rq) : Nat → By
  | 0 => r.name
  | 1 => r.key
  | 2 => r.last
  | _ => r.value
def Rq.put (r : Rq) : Nat → By → Rq
  | 0, p => { r with name := p }
  | 1, p => { r with key := p }
  | 2, p => { r with last := p }
  | _, p => { r with value := p }
def iK (h : Nat) (r : Rq) : Nat → By
  | 0 => []
  | i + 1 => iK h r i ++ zE (h.testBit i) (r.part i)
theorem RL (h : Nat) (r : Rq) : iK h r 4 = IW h r := by
 simp [iK, IW, Rq.part]
theorem vM {h i : Nat} (r : Rq) (e : h.testBit i = false) : iK h r (i + 1) = iK h r i := by
 simp [iK, zE, e]
theorem sN {h i : Nat} (r : Rq) (e : h.testBit i = true) : iK h r (i + 1) = iK h r i ++ b8 (r.part i).length :: r.part i := by
 simp [iK, zE, e, dV]
def eL (h : Nat) : Nat → Nat → Rq → By → Option (Rq × By)
  | 0, _, r, b => some (r, b)
  | n + 1, i, r, b => if h.testBit i = true then
      match jB b with
      | none => none
      | some p => eL h n (i + 1) (r.put i p.1) p.2
    else eL h n (i + 1) r b
theorem dY {h n i : Nat} {r : Rq} {b : By} (e : h.testBit i = false) : eL h (n + 1) i r b = eL h n (i + 1) r b := by
 rw [eL, zZa (by rw [e]; decide)]
theorem cF {h n i : Nat} {r : Rq} {b : By} (e : h.testBit i = true) (k : jB b = none) : eL h (n + 1) i r b = none := by
 rw [eL, zZb e, k]
theorem dD {h n i : Nat} {r : Rq} {b : By} {p : By × By} (e : h.testBit i = true) (k : jB b = some p) : eL h (n + 1) i r b = eL h n (i + 1) (r.put i p.1) p.2 := by
 rw [eL, zZb e, k]
theorem OC (h : Nat) (b : By) : eL h 4 0 ⟨[], [], [], []⟩ b = oN h b := by
 unfold oN zD
 cases e0 : h.testBit 0
 ·rw [dY e0]
  cases e1 : h.testBit 1
  ·rw [dY e1]
   cases e2 : h.testBit 2
   ·rw [dY e2]
    cases e3 : h.testBit 3
    ·rw [dY e3]; simp [eL]
    ·cases k3 : jB b with
     | none => rw [cF e3 k3]; simp [k3]
     | some p3 => rw [dD e3 k3]; simp [k3, eL, Rq.put]
   ·cases k2 : jB b with
    | none => rw [cF e2 k2]; simp [k2]
    | some p2 =>
     rw [dD e2 k2]
     cases e3 : h.testBit 3
     ·rw [dY e3]; simp [k2, eL, Rq.put]
     ·cases k3 : jB p2.2 with
      | none => rw [cF e3 k3]; simp [k2, k3]
      | some p3 => rw [dD e3 k3]; simp [k2, k3, eL, Rq.put]
  ·cases k1 : jB b with
   | none => rw [cF e1 k1]; simp [k1]
   | some p1 =>
    rw [dD e1 k1]
    cases e2 : h.testBit 2
    ·rw [dY e2]
     cases e3 : h.testBit 3
     ·rw [dY e3]; simp [k1, eL, Rq.put]
     ·cases k3 : jB p1.2 with
      | none => rw [cF e3 k3]; simp [k1, k3]
      | some p3 => rw [dD e3 k3]; simp [k1, k3, eL, Rq.put]
    ·cases k2 : jB p1.2 with
     | none => rw [cF e2 k2]; simp [k1, k2]
     | some p2 =>
      rw [dD e2 k2]
      cases e3 : h.testBit 3
      ·rw [dY e3]; simp [k1, k2, eL, Rq.put]
      ·cases k3 : jB p2.2 with
       | none => rw [cF e3 k3]; simp [k1, k2, k3]
       | some p3 => rw [dD e3 k3]; simp [k1, k2, k3, eL, Rq.put]
 ·cases k0 : jB b with
  | none => rw [cF e0 k0]; simp [k0]
  | some p0 =>
   rw [dD e0 k0]
   cases e1 : h.testBit 1
   ·rw [dY e1]
    cases e2 : h.testBit 2
    ·rw [dY e2]
     cases e3 : h.testBit 3
     ·rw [dY e3]; simp [eL, Rq.put]
     ·cases k3 : jB p0.2 with
      | none => rw [cF e3 k3]; simp [k3]
      | some p3 => rw [dD e3 k3]; simp [k3, eL, Rq.put]
    ·cases k2 : jB p0.2 with
     | none => rw [cF e2 k2]; simp [k2]
     | some p2 =>
      rw [dD e2 k2]
      cases e3 : h.testBit 3
      ·rw [dY e3]; simp [k2, eL, Rq.put]
      ·cases k3 : jB p2.2 with
       | none => rw [cF e3 k3]; simp [k2, k3]
       | some p3 => rw [dD e3 k3]; simp [k2, k3, eL, Rq.put]
   ·cases k1 : jB p0.2 with
    | none => rw [cF e1 k1]; simp [k1]
    | some p1 =>
     rw [dD e1 k1]
     cases e2 : h.testBit 2
     ·rw [dY e2]
      cases e3 : h.testBit 3
      ·rw [dY e3]; simp [k1, eL, Rq.put]
      ·cases k3 : jB p1.2 with
       | none => rw [cF e3 k3]; simp [k1, k3]
       | some p3 => rw [dD e3 k3]; simp [k1, k3, eL, Rq.put]
     ·cases k2 : jB p1.2 with
      | none => rw [cF e2 k2]; simp [k1, k2]
      | some p2 =>
       rw [dD e2 k2]
       cases e3 : h.testBit 3
       ·rw [dY e3]; simp [k1, k2, eL, Rq.put]
       ·cases k3 : jB p2.2 with
        | none => rw [cF e3 k3]; simp [k1, k2, k3]
        | some p3 => rw [dD e3 k3]; simp [k1, k2, k3, eL, Rq.put]
theorem yT {b : By} (h : b.length = 0) : jB b = none := by
 rw [List.eq_nil_of_length_eq_zero h]; rfl
theorem sO {b : By} {x : UInt8} (h : b[0]? = some x) (k : b.length < 1 + x.toNat) : jB b = none := by
 cases b with
 | nil => cases h
 | cons y t =>
  simp only [zZp, Option.some.injEq] at h
  subst h
  simp only [zZg] at k
  rw [rR, zZb (by omega)]
theorem vN {b : By} {x : UInt8} (h : b[0]? = some x) (k : ¬ b.length < 1 + x.toNat) : jB b = some ((b.take (1 + x.toNat)).drop 1, b.drop (1 + x.toNat)) := by
 cases b with
 | nil => cases h
 | cons y t =>
  simp only [zZp, Option.some.injEq] at h
  subst h
  simp only [zZg] at k
  rw [rR, zZa (by omega), Nat.add_comm 1]
  simp
def wdE (b : By) : Int :=
  if 4000 < b.length then 1 else match b with
  | [] => 14
  | x :: t => if x.toNat < 1 ∨ 8 < x.toNat then 5 else match oN (bJ x.toNat) t with
    | none => 14
    | some p => if 0 < p.2.length then 4 else vY x.toNat p.1.name.length p.1.key.length p.1.last.length p.1.value.length
def wdR (b : By) : Nat × Rq :=
  if wdE b = 0 then match b with
    | [] => (0, ⟨[], [], [], []⟩)
    | x :: t => match oN (bJ x.toNat) t with
      | none => (0, ⟨[], [], [], []⟩)
      | some p => (x.toNat, p.1)
  else (0, ⟨[], [], [], []⟩)
theorem Al (k : Nat) (h : 1 ≤ k ∧ k ≤ 8) : bJ k = 0 ∨ bJ k = 3 ∨ bJ k = 7 ∨ bJ k = 11 := by
 rcases (by omega : k = 1 ∨ k = 2 ∨ k = 3 ∨ k = 4 ∨ k = 5 ∨ k = 6 ∨ k = 7 ∨ k = 8) with rfl | rfl | rfl | rfl | rfl | rfl | rfl | rfl <;> decide
theorem UB (k : Nat) (h : 1 ≤ k ∧ k ≤ 8) : (bJ k).testBit 1 = (bJ k).testBit 0 := by
 rcases Al k h with e | e | e | e <;> rw [e] <;> rfl
theorem rI {h n y l v : Nat} (e : jA h n y l v = 0) : (h.testBit 0 = true → 1 ≤ n ∧ n ≤ 8) ∧ (h.testBit 0 = true → 1 ≤ y ∧ y ≤ 16) ∧ (h.testBit 2 = true → 1 ≤ l ∧ l ≤ 16) ∧ v ≤ 32 ∧
    (h.testBit 0 = false → n = 0) ∧ (h.testBit 1 = false → y = 0) ∧ (h.testBit 2 = false → l = 0) ∧ (h.testBit 3 = false → v = 0) := by
 unfold jA at e
 split at e
 exact absurd e (by decide)
 split at e
 exact absurd e (by decide)
 split at e
 exact absurd e (by decide)
 split at e
 exact absurd e (by decide)
 split at e
 exact absurd e (by decide)
 rename_i q1 q2 q3 q4 q5
 refine ⟨fun hb => Decidable.byContradiction fun hn => q1 ⟨hb, hn⟩, fun hb => Decidable.byContradiction fun hn => q2 ⟨hb, hn⟩, fun hb => Decidable.byContradiction fun hn => q3 ⟨hb, hn⟩, by omega, fun hb => ?_, fun hb => ?_, fun hb => ?_, fun hb => ?_⟩
 exact Decidable.byContradiction fun hn => q5 (Or.inl ⟨by rw [hb]; decide, by omega⟩)
 exact Decidable.byContradiction fun hn => q5 (Or.inr (Or.inl ⟨by rw [hb]; decide, by omega⟩))
 exact Decidable.byContradiction fun hn => q5 (Or.inr (Or.inr (Or.inl ⟨by rw [hb]; decide, by omega⟩)))
 exact Decidable.byContradiction fun hn => q5 (Or.inr (Or.inr (Or.inr ⟨by rw [hb]; decide, by omega⟩)))
theorem Ex {k : Nat} (hk : 1 ≤ k ∧ k ≤ 8) {r : Rq} (h : vY k r.name.length r.key.length r.last.length r.value.length = 0) : FitsW (bJ k) r := by
 obtain ⟨a1, a2, a3, a4, a5, a6, a7, a8⟩ := rI (h := bJ k) h
 have hb := UB k hk
 have e0 : ∀ {l : By}, l.length = 0 → l = [] := fun h => List.eq_nil_of_length_eq_zero h
 refine ⟨⟨?_, fun q => e0 (a5 q)⟩, ⟨?_, fun q => e0 (a6 q)⟩, ⟨?_, fun q => e0 (a7 q)⟩, ⟨by omega, fun q => e0 (a8 q)⟩⟩
 cases e : (bJ k).testBit 0
 have := a5 e; omega
 have := a1 e; omega
 cases e : (bJ k).testBit 0
 have := a6 (hb.trans e); omega
 have := a2 e; omega
 cases e : (bJ k).testBit 2
 have := a7 e; omega
 have := a3 e; omega
structure RqOk (k : Nat) (r : Rq) : Prop where
  kind : 1 ≤ k ∧ k ≤ 8
  fits : vY k r.name.length r.key.length r.last.length r.value.length = 0
def mW (k : Nat) (r : Rq) : By := b8 k :: IW (bJ k) r
theorem RqOk.lens {k : Nat} {r : Rq} (h : RqOk k r) : r.name.length ≤ 8 ∧ r.key.length ≤ 16 ∧ r.last.length ≤ 16 ∧ r.value.length ≤ 32 := by
 obtain ⟨a1, a2, a3, a4, a5, a6, a7, a8⟩ := rI (h := bJ k) h.fits
 have hb := UB k h.kind
 refine ⟨?_, ?_, ?_, a4⟩
 cases e : (bJ k).testBit 0
 have := a5 e; omega
 have := a1 e; omega
 cases e : (bJ k).testBit 0
 have := a6 (hb.trans e); omega
 have := a2 e; omega
 cases e : (bJ k).testBit 2
 have := a7 e; omega
 have := a3 e; omega
theorem uM (c : Bool) (p : By) : (zE c p).length ≤ p.length + 1 := by
 cases c <;> simp [zE, dV]
theorem OD {k : Nat} {r : Rq} (h : RqOk k r) : (mW k r).length ≤ 77 := by
 obtain ⟨a1, a2, a3, a4⟩ := h.lens
 have := uM ((bJ k).testBit 0) r.name
 have := uM ((bJ k).testBit 1) r.key
 have := uM ((bJ k).testBit 2) r.last
 have := uM ((bJ k).testBit 3) r.value
 simp only [mW, IW, zZg, zZf]
 omega
theorem Iy {k : Nat} (hk : 1 ≤ k ∧ k ≤ 8) {t : By} (hl : t.length < 4000) : wdE (b8 k :: t) = match oN (bJ k) t with
    | none => 14
    | some p => if 0 < p.2.length then 4 else vY k p.1.name.length p.1.key.length p.1.last.length p.1.value.length := by
  unfold wdE
  rw [zZa (by simp only [zZg]; omega)]
  have e : (b8 k).toNat = k := nD (by omega)
  simp only [e]
  rw [zZa (by omega)]
theorem UC {k : Nat} {r : Rq} (h : RqOk k r) : wdE (mW k r) = 0 ∧ wdR (mW k r) = (k, r) := by
 have hl := OD h
 have hd := XU (Ex h.kind h.fits) []
 rw [List.append_nil] at hd
 have he : wdE (mW k r) = 0 := by
  unfold mW at hl ⊢
  rw [Iy h.kind (by simp only [zZg] at hl; omega), hd]
  simp only [zZj]
  rw [zZa (by omega)]
  exact h.fits
 have e : (b8 k).toNat = k := nD (by have := h.kind; omega)
 refine ⟨he, ?_⟩
 unfold wdR
 rw [zZb he]
 unfold mW
 simp only [e, hd]
theorem OE {b : By} (h : wdE b = 0) : RqOk (wdR b).1 (wdR b).2 ∧ b = mW (wdR b).1 (wdR b).2 := by
 cases b with
 | nil => exact absurd h (by decide)
 | cons x t =>
  have hr : wdR (x :: t) = match oN (bJ x.toNat) t with
    | none => (0, ⟨[], [], [], []⟩)
    | some p => (x.toNat, p.1) := by unfold wdR; rw [zZb h]
  unfold wdE at h
  split at h
  exact absurd h (by decide)
  simp only at h
  split at h
  exact absurd h (by decide)
  rename_i hk
  cases hd : oN (bJ x.toNat) t with
  | none => rw [hd] at h; simp at h
  | some p =>
   rw [hd] at h hr
   simp only at h hr
   split at h
   exact absurd h (by decide)
   rename_i hz
   rw [hr]
   have hi := (XV hd).1
   rw [List.eq_nil_of_length_eq_zero (by omega : p.2.length = 0), List.append_nil] at hi
   refine ⟨⟨by simp only; omega, h⟩, ?_⟩
   simp only [mW, SK]
   rw [← hi]
theorem Ey {b : By} (h : wdE b ≠ 0) : wdR b = (0, ⟨[], [], [], []⟩) := by unfold wdR; rw [zZa h]
theorem kM {w : World} (h : Has w) {k : Nat} (hk : 1 ≤ k ∧ k ≤ 8) : w.cell? ⟨0, k, none⟩ = some (.int .i64 ((bJ k : Nat) : Int)) := by
 have := h k (by simp [RK]; omega)
 rw [this]
 rcases (by omega : k = 1 ∨ k = 2 ∨ k = 3 ∨ k = 4 ∨ k = 5 ∨ k = 6 ∨ k = 7 ∨ k = 8) with rfl | rfl | rfl | rfl | rfl | rfl | rfl | rfl <;> rfl
theorem qD {h i : Nat} (e : h.testBit i = true) : h / 2 ^ i % 2 = 1 := by
 rw [Nat.testBit_eq_decide_div_mod_eq] at e
 exact of_decide_eq_true e
theorem uN {h i : Nat} (e : h.testBit i = false) : h / 2 ^ i % 2 = 0 := by
 rw [Nat.testBit_eq_decide_div_mod_eq] at e
 have := of_decide_eq_false e
 omega
theorem fM {P : Program} {ρ : Operand → Value} {w : World} {d : Option Tmp} {t X E : TypeId} {n : Nat} {pos : String} {after : Array Edge} {guard : Option (Nat × Bool)} {x y : Operand} {cs : Array Value} {i : Nat} {v : Value} (hX : P.underlying X = some (.array n E)) (hs : (sizeOf E).run P w = .ok 1 w) (hx : ρ x = .agg cs) (hy : ρ y = .int .i64 i) (hi : i < n) (hb : (isAgg E).run P w = .ok false w) (hv : cs[i]? = some v) :
    (execOp ρ ⟨d, .index X x y, t, pos, after, guard⟩).run P w = .ok (.value v) w := by
 have h1 : (0 : Int) ≤ (i : Int) ∧ (i : Int) < (n : Int) := by omega
 simp [execOp, hx, hy, Instr.index, part, Sem.run_bind, run_underlying hX w, asIntOf, hs, h1, hb, hv, hi]
theorem gJ {P : Program} {ρ : Operand → Value} {w : World} {d : Option Tmp} {t X E : TypeId} {n : Nat} {pos : String} {after : Array Edge} {guard : Option (Nat × Bool)} {x y : Operand} {b i : Nat} (hX : P.underlying X = some (.array n E)) (hs : (sizeOf E).run P w = .ok 1 w) (hx : ρ x = .pointer (some ⟨b, 0, none⟩)) (hy : ρ y = .int .i64 i) (hi : i < n) :
    (execOp ρ ⟨d, .indexAddr X x y, t, pos, after, guard⟩).run P w = .ok (.value (.pointer (some ⟨b, i, none⟩))) w := by
 have hadd : (⟨b, 0, none⟩ : Addr).add (i * 1) = ⟨b, i, none⟩ := by rw [Addr.add_mid]; simp
 have hlt : (0 : Int) ≤ (i : Int) ∧ (i : Int) < (n : Int) := by omega
 have hlt' : ¬ ((i : Int) < 0 ∨ (n : Int) ≤ (i : Int)) := by omega
 simp only [Nat.mul_one] at hadd
 simp [execOp, hx, hy, Instr.indexAt, Instr.sureAddr, asIntOf, Sem.run_bind, Sem.run_pure, Result.andThen_ok, run_underlying hX w, hs, hadd, hlt, hi]
theorem iO {P : Program} {ρ : Operand → Value} {w : World} {d : Option Tmp} {t X Y : TypeId} {x y : Operand} {pos : String} {after : Array Edge} {guard : Option (Nat × Bool)} {m n : Nat} (hx : ρ x = .int .i64 (m : Int)) (hy : ρ y = .int .i64 (n : Int)) (hn : n ≤ 64) : (execOp ρ ⟨d, .binOp .shr X x y Y, t, pos, after, guard⟩).run P w = .ok (.value (.int .i64 ((m / 2 ^ n : Nat) : Int))) w := by
 have e : (eqGuard .shr X x y (.int .i64 (m : Int)) (.int .i64 (n : Int))).run P w = .ok () w := rfl
 have h : (binOp .shr X (.int .i64 (m : Int)) (.int .i64 (n : Int))).run P w = .ok (.int .i64 ((m / 2 ^ n : Nat) : Int)) w := by
  show (Op.shift .shr .i64 (m : Int) .i64 (n : Int)).run P w = _
  unfold Op.shift
  rw [zZa (by omega)]
  show Result.ok (Value.int .i64 (Int.fdiv (m : Int) (2 ^ (min (n : Int).toNat 64)))) w = _
  rw [Int.toNat_natCast, Nat.min_eq_left hn, Int.fdiv_eq_ediv_of_nonneg _ (show (0 : Int) ≤ 2 ^ n from Int.le_of_lt (Int.pow_pos (by decide)))]
  simp
 simp only [execOp, hx, hy, Sem.run_bind, e, Result.andThen_ok, h, Sem.run_pure]
theorem fN {P : Program} {ρ : Operand → Value} {w : World} {d : Option Tmp} {t X Y : TypeId} {x y : Operand} {pos : String} {after : Array Edge} {guard : Option (Nat × Bool)} {m : Nat} (hx : ρ x = .int .i64 (m : Int)) (hy : ρ y = .int .i64 1) : (execOp ρ ⟨d, .binOp .and X x y Y, t, pos, after, guard⟩).run P w = .ok (.value (.int .i64 ((m % 2 : Nat) : Int))) w := by
 refine kK hx hy ?_
 rw [eR _ (by simp)]
 show Result.ok (Value.int .i64 (IntKind.i64.wrap ((BitVec.ofInt 64 (m : Int) &&& BitVec.ofInt 64 (1 : Int)).toNat : Int))) w = _
 have h1 : (BitVec.ofInt 64 (m : Int) &&& BitVec.ofInt 64 (1 : Int)).toNat = m % 2 := by
  rw [BitVec.toNat_and, BitVec.ofInt_natCast, show BitVec.ofInt 64 (1 : Int) = 1#64 from rfl, BitVec.toNat_ofNat, show (1#64).toNat = 1 from rfl, Nat.and_one_is_mod]
  omega
 rw [h1, kD (by omega) (by omega)]
theorem mX (F : Fz) (w : World) (v : Value) (k : Nat) (r : Rq) (hh : Has w) (hv : BG F v k r.name r.key r.last r.value) (ok : RqOk k r) :
    Calls Tryz.prog 41 #[v] w (cT w (.int .i64 0)) := by
 have := uL F w v k r.name r.key r.last r.value ok.kind.1 ok.kind.2 hh hv
 rwa [ok.fits] at this
def Jl (b : By) (F : Fz) (u : Value) : Prop := ∃ x, u = .tuple #[x, .int .i64 0] ∧ Bs F x b
theorem jX {k : Nat} {r : Rq} (ok : RqOk k r) : ∀ i, i ≤ 4 → (iK (bJ k) r i).length ≤ 33 * i := by
 obtain ⟨a1, a2, a3, a4⟩ := ok.lens
 intro i hi
 have h : ∀ j, j < 4 → (r.part j).length ≤ 32 := fun j hj => by
  rcases (by omega : j = 0 ∨ j = 1 ∨ j = 2 ∨ j = 3) with rfl | rfl | rfl | rfl
  ·exact zZo a1 (by omega)
  ·exact zZo a2 (by omega)
  ·exact zZo a3 (by omega)
  ·exact a4
 clear a1 a2 a3 a4
 induction i with
 | zero => simp [iK]
 | succ i ih =>
  have := ih (by omega)
  have := h i (by omega)
  have := uM ((bJ k).testBit i) (r.part i)
  simp only [iK, zZf]
  omega
theorem BH (F : Fz) (w : World) (v : Value) (k : Nat) (r : Rq) (hs : Sat w F) (hh : Has w) (hv : BG F v k r.name r.key r.last r.value) (ok : RqOk k r) :
    Calls Tryz.prog 31 #[v] w (dF w F (Jl (mW k r))) := by
 have hk := ok.kind
 obtain ⟨a1, a2, a3, a4⟩ := ok.lens
 obtain ⟨_, _, _, _, rfl, h0, h1, h2, h3⟩ := hv
 obtain ⟨x0, y0, rfl, _⟩ := h0.shape
 obtain ⟨x1, y1, rfl, _⟩ := h1.shape
 obtain ⟨x2, y2, rfl, _⟩ := h2.shape
 obtain ⟨x3, y3, rfl, _⟩ := h3.shape
 obtain ⟨i5, hi5, hz5, hs5, hb5⟩ := info_parts qG
 have S := St.start hs
 go_enter Tryz.func31, Tryz.ntmps31
 refine sk fun K1 hK1 => ?_
 refine bH S (v := fun n => .pointer (aA n 0)) rfl (bX (v := (.agg #[(nI k), (.slice x0 r.name.length y0), (.slice x1 r.key.length y1), (.slice x2 r.last.length y2), (.slice x3 r.value.length y3)])) rfl) (fun n2 w3 S4 => ?_)
 iterate 2 refine dy ?_
 refine wn hK1 ?_
 refine aE fun K5 hK5 => ?_
 refine sk fun K6 hK6 => ?_
 refine dR S4 0 Tryz.underlying27 (bG) ?_
 simp only [pq]
 refine aJ (v := (iI 0)) S4 rfl (fn1 (JW _ _)) (mX _ _ _ k r (hh.below S4.gr.below) ⟨_, _, _, _, rfl, h0, h1, h2, h3⟩ ok) (fun w7 S8 => ?_)
 refine dy ?_
 refine wn hK6 ?_
 refine sk fun K9 hK9 => ?_
 refine dx ?_
 refine dr bF (cH (m := (0 : Int)) (n := (0 : Int)) (b := false) rfl rfl (bne_eq_false_iff_eq.2 (rfl))) ?_
 simp only [pq]
 refine wn hK9 ?_
 refine aF ?_
 refine aH ?_
 refine hK5 _ _ ?_
 refine sk fun g0 b7 => ?_
 refine aC ?_
 refine dr (bv (b8 k)) (aU (v := (nI k)) rfl (iZ k _)) ?_
 simp only [pq]
 refine bH S8 (v := fun n => .slice (aA n 0) 1 1) rfl (cN (ps := #[(0, (bv (b8 k)))]) (cells := #[(bv (b8 k))]) (E := 5) (cZ rfl) (fun w => by kernel_rfl)) (fun b9 e1 d2 => ?_)
 refine dy ?_
 refine wn b7 ?_
 refine aE fun g1 c0 => ?_
 refine sk fun g2 c1 => ?_
 refine aC ?_
 refine dr (.agg #[(.slice x0 r.name.length y0), (.slice x1 r.key.length y1), (.slice x2 r.last.length y2), (.slice x3 r.value.length y3)]) (aK (qW rfl rfl rfl rfl) (by kernel_rfl)) ?_
 simp only [pq]
 refine dx ?_
 refine wn c1 ?_
 refine aN ?_
 have e2 : St w F e1 F [⟨n2, [(nI k), (.slice x0 r.name.length y0), (.slice x1 r.key.length y1), (.slice x2 r.last.length y2), (.slice x3 r.value.length y3)], 27⟩] [cU 1 ByC ByC.mono 5 w.heap.size (.slice (aA b9 0) 1 1) [b8 k]] := St.blkRow (k := 1) (l := [b8 k]) (el := [[(bv (b8 k))]]) (hR := ByC.mono) d2 rfl ⟨rfl, trivial⟩ (by simp) rfl (by simp) (by unfold maxLen; decide) (d2.blk _ (List.mem_cons_self ..)).2.2
 refine aX (fun mm aa e3 => ∃ (i : Nat) (v : Value) (a9 : Fz) (b1 : Nat → Value), mm = 4 - i ∧ b1 = dX aa ∧ aa = ⟨([(.agg #[(nI k), (.slice x0 r.name.length y0), (.slice x1 r.key.length y1), (.slice x2 r.last.length y2), (.slice x3 r.value.length y3)]), (pP n2 0), Zn, (iI 0), (iI 0), v, (b1 6), (b1 7), (.agg #[(nI k), (.slice x0 r.name.length y0), (.slice x1 r.key.length y1), (.slice x2 r.last.length y2), (.slice x3 r.value.length y3)]), (iI 0), (iI 0), bF, undef, (pP n2 0), (nI k), (bv (b8 k)), (.slice (aA b9 0) 1 1), (pP n2 1), (.slice x0 r.name.length y0), (pP n2 2), (.slice x1 r.key.length y1), (pP n2 3), (.slice x2 r.last.length y2), (pP n2 4), (.slice x3 r.value.length y3), (.agg #[(.slice x0 r.name.length y0), (.slice x1 r.key.length y1), (.slice x2 r.last.length y2), (.slice x3 r.value.length y3)]), (nI i)] ++ (usF b1 27 20 [undef])).toArray, []⟩ ∧ St w F e3 a9 [⟨n2, [(nI k), (.slice x0 r.name.length y0), (.slice x1 r.key.length y1), (.slice x2 r.last.length y2), (.slice x3 r.value.length y3)], 27⟩] [cU 1 ByC ByC.mono 5 w.heap.size v (b8 k :: iK (bJ k) r i)] ∧ Le F a9 ∧ (i ≤ 4)) _ ⟨0, (.slice (aA b9 0) 1 1), F, _, rfl, rfl, rfl, e2, Le.refl _, (by omega)⟩ ?_
 rintro g3 g4 g5 ⟨i, v, a9, b1, rfl, -, hfr, a5, a0, hi4⟩ g6 a6
 simp only [uzF, Nat.reduceAdd] at hfr; subst hfr
 refine sk fun g7 b2 => ?_
 by_cases e4 : i < 4
 ·refine eS ?_
  refine wn b2 ?_
  refine aE fun g8 c2 => ?_
  refine aI ?_
  refine aH ?_
  refine c2 _ _ ?_
  refine aE fun g9 a7 => ?_
  refine aN ?_
  refine aE fun h5 a8 => ?_
  rcases (by omega : i = 0 ∨ i = 1 ∨ i = 2 ∨ i = 3) with h4 | h4 | h4 | h4
  ·by_cases he : (bJ k).testBit i = true
   ·have hx := qD he
    have hpl := jX ok i (by omega)
    refine aB ?_
    refine dx ?_
    refine dr (.slice x0 r.name.length y0) (fM (i := i) Tryz.underlying91 (iR _) rfl rfl (by omega) (aZ _) (by rw [h4]; rfl)) ?_
    refine aC ?_
    refine wlK a8 ?_
    refine sk fun h6 c3 => ?_
    refine aC ?_
    refine dr (pP 0 k) (gJ (i := k) Tryz.underlying92 (fI _) rfl rfl (by omega)) ?_
    simp only [pq]
    refine dr _ (aD rfl (aQ (bM _) (kM (hh.below a5.gr.below) hk))) ?_
    refine dx ?_
    refine dr (nI ((bJ k) / 2 ^ i)) (iO (m := (bJ k)) (n := i) rfl rfl (by omega)) ?_
    simp only [pq]
    refine dr (.int .i64 (((((bJ k) / 2 ^ i) % 2) : Nat) : Int)) (fN (m := ((bJ k) / 2 ^ i)) rfl rfl) ?_
    refine dr bT (dH (m := (((((bJ k) / 2 ^ i) % 2) : Nat) : Int)) (n := (1 : Int)) (b := true) rfl rfl (beq_iff_eq.2 (by rw [hx]; rfl))) ?_
    refine wn c3 ?_
    refine aI ?_
    refine aB ?_
    refine aC ?_
    refine dr (bv (b8 r.name.length)) (aU (v := (nI r.name.length)) rfl (iZ r.name.length _)) ?_
    refine bH a5 (v := fun n => .slice (aA n 0) 1 1) rfl (cN (ps := #[(0, (bv (b8 r.name.length)))]) (cells := #[(bv (b8 r.name.length))]) (E := 5) (cZ rfl) (fun w => by kernel_rfl)) (fun h7 h8 d3 => ?_)
    refine fH (i := 0) (r := 0) (p := (b8 r.name.length)) (cs := [(bv (b8 r.name.length))]) d3 rfl i5 (.int .u8 0) 1 Tryz.underlying25 hi5 hz5 hs5 hb5 rfl (by decide) rfl rfl rfl rfl rfl (sH (b8 r.name.length)) (rfl) (zZe _) d3.gr.below.size (by unfold maxLen; simp only [zZg, zZf]; omega) (by simp only [zZg, zZf]; omega) ?_
    intro h9 i0 b3 e5
    simp only [pq]
    have b3 := St.drop b3 (.cons _ (zZd _))
    refine dx ?_
    refine eH (r := 0) (u := (.slice x0 r.name.length y0)) b3 rfl i5 (.int .u8 0) 1 Tryz.underlying25 hi5 hz5 hs5 hb5 rfl (by decide) rfl rfl rfl (Sl.toW (Bs.sl (h0.mono a0)) (b3).sat) ByC.one (zZe _) b3.gr.below.size (by unfold maxLen; simp only [zZg, zZf, zZj]; omega) (by simp only [zZg, zZf, zZj]; omega) ?_
    intro e6 i1 d4 e7
    refine dy ?_
    refine wlK a7 ?_
    rw [show (((b8 k :: iK (bJ k) r i) ++ [(b8 r.name.length)]) ++ r.name) = b8 k :: iK (bJ k) r (i + 1) from by rw [sN r he, h4]; simp [Rq.part]] at d4
    refine aB ?_
    refine cR (i + 1) ?_
    refine dx ?_
    simp only [pq]
    refine aG ?_
    exact a6 _ _ _ (by omega) ⟨(i + 1), e6, a9, _, rfl, rfl, rfl, d4, a0, (by omega)⟩
   ·have he : (bJ k).testBit i = false := by simpa using he
    have hx := uN he
    have hpl := jX ok i (by omega)
    refine aB ?_
    refine dx ?_
    refine dr (.slice x0 r.name.length y0) (fM (i := i) Tryz.underlying91 (iR _) rfl rfl (by omega) (aZ _) (by rw [h4]; rfl)) ?_
    refine aC ?_
    refine wlK a8 ?_
    refine sk fun i2 c4 => ?_
    refine aC ?_
    refine dr (pP 0 k) (gJ (i := k) Tryz.underlying92 (fI _) rfl rfl (by omega)) ?_
    simp only [pq]
    refine dr _ (aD rfl (aQ (bM _) (kM (hh.below a5.gr.below) hk))) ?_
    refine dx ?_
    refine dr (nI ((bJ k) / 2 ^ i)) (iO (m := (bJ k)) (n := i) rfl rfl (by omega)) ?_
    simp only [pq]
    refine dr (.int .i64 (((((bJ k) / 2 ^ i) % 2) : Nat) : Int)) (fN (m := ((bJ k) / 2 ^ i)) rfl rfl) ?_
    refine dr bF (dH (m := (((((bJ k) / 2 ^ i) % 2) : Nat) : Int)) (n := (1 : Int)) (b := false) rfl rfl (beq_eq_false_iff_ne.2 (by rw [hx]; decide))) ?_
    refine wn c4 ?_
    refine aF ?_
    refine aH ?_
    refine a7 _ _ ?_
    rw [← vM r he] at a5
    refine aB ?_
    refine cR (i + 1) ?_
    refine dx ?_
    simp only [pq]
    refine aG ?_
    exact a6 _ _ _ (by omega) ⟨(i + 1), v, a9, _, rfl, rfl, rfl, a5, a0, (by omega)⟩
  ·by_cases he : (bJ k).testBit i = true
   ·have hx := qD he
    have hpl := jX ok i (by omega)
    refine aB ?_
    refine dx ?_
    refine dr (.slice x1 r.key.length y1) (fM (i := i) Tryz.underlying91 (iR _) rfl rfl (by omega) (aZ _) (by rw [h4]; rfl)) ?_
    refine aC ?_
    refine wlK a8 ?_
    refine sk fun i3 c5 => ?_
    refine aC ?_
    refine dr (pP 0 k) (gJ (i := k) Tryz.underlying92 (fI _) rfl rfl (by omega)) ?_
    simp only [pq]
    refine dr _ (aD rfl (aQ (bM _) (kM (hh.below a5.gr.below) hk))) ?_
    refine dx ?_
    refine dr (nI ((bJ k) / 2 ^ i)) (iO (m := (bJ k)) (n := i) rfl rfl (by omega)) ?_
    simp only [pq]
    refine dr (.int .i64 (((((bJ k) / 2 ^ i) % 2) : Nat) : Int)) (fN (m := ((bJ k) / 2 ^ i)) rfl rfl) ?_
    refine dr bT (dH (m := (((((bJ k) / 2 ^ i) % 2) : Nat) : Int)) (n := (1 : Int)) (b := true) rfl rfl (beq_iff_eq.2 (by rw [hx]; rfl))) ?_
    refine wn c5 ?_
    refine aI ?_
    refine aB ?_
    refine aC ?_
    refine dr (bv (b8 r.key.length)) (aU (v := (nI r.key.length)) rfl (iZ r.key.length _)) ?_
    refine bH a5 (v := fun n => .slice (aA n 0) 1 1) rfl (cN (ps := #[(0, (bv (b8 r.key.length)))]) (cells := #[(bv (b8 r.key.length))]) (E := 5) (cZ rfl) (fun w => by kernel_rfl)) (fun i4 i6 d5 => ?_)
    refine fH (i := 0) (r := 0) (p := (b8 r.key.length)) (cs := [(bv (b8 r.key.length))]) d5 rfl i5 (.int .u8 0) 1 Tryz.underlying25 hi5 hz5 hs5 hb5 rfl (by decide) rfl rfl rfl rfl rfl (sH (b8 r.key.length)) (rfl) (zZe _) d5.gr.below.size (by unfold maxLen; simp only [zZg, zZf]; omega) (by simp only [zZg, zZf]; omega) ?_
    intro i7 i8 b4 e8
    simp only [pq]
    have b4 := St.drop b4 (.cons _ (zZd _))
    refine dx ?_
    refine eH (r := 0) (u := (.slice x1 r.key.length y1)) b4 rfl i5 (.int .u8 0) 1 Tryz.underlying25 hi5 hz5 hs5 hb5 rfl (by decide) rfl rfl rfl (Sl.toW (Bs.sl (h1.mono a0)) (b4).sat) ByC.one (zZe _) b4.gr.below.size (by unfold maxLen; simp only [zZg, zZf, zZj]; omega) (by simp only [zZg, zZf, zZj]; omega) ?_
    intro e9 i9 d6 f0
    refine dy ?_
    refine wlK a7 ?_
    rw [show (((b8 k :: iK (bJ k) r i) ++ [(b8 r.key.length)]) ++ r.key) = b8 k :: iK (bJ k) r (i + 1) from by rw [sN r he, h4]; simp [Rq.part]] at d6
    refine aB ?_
    refine cR (i + 1) ?_
    refine dx ?_
    simp only [pq]
    refine aG ?_
    exact a6 _ _ _ (by omega) ⟨(i + 1), e9, a9, _, rfl, rfl, rfl, d6, a0, (by omega)⟩
   ·have he : (bJ k).testBit i = false := by simpa using he
    have hx := uN he
    have hpl := jX ok i (by omega)
    refine aB ?_
    refine dx ?_
    refine dr (.slice x1 r.key.length y1) (fM (i := i) Tryz.underlying91 (iR _) rfl rfl (by omega) (aZ _) (by rw [h4]; rfl)) ?_
    refine aC ?_
    refine wlK a8 ?_
    refine sk fun j0 c6 => ?_
    refine aC ?_
    refine dr (pP 0 k) (gJ (i := k) Tryz.underlying92 (fI _) rfl rfl (by omega)) ?_
    simp only [pq]
    refine dr _ (aD rfl (aQ (bM _) (kM (hh.below a5.gr.below) hk))) ?_
    refine dx ?_
    refine dr (nI ((bJ k) / 2 ^ i)) (iO (m := (bJ k)) (n := i) rfl rfl (by omega)) ?_
    simp only [pq]
    refine dr (.int .i64 (((((bJ k) / 2 ^ i) % 2) : Nat) : Int)) (fN (m := ((bJ k) / 2 ^ i)) rfl rfl) ?_
    refine dr bF (dH (m := (((((bJ k) / 2 ^ i) % 2) : Nat) : Int)) (n := (1 : Int)) (b := false) rfl rfl (beq_eq_false_iff_ne.2 (by rw [hx]; decide))) ?_
    refine wn c6 ?_
    refine aF ?_
    refine aH ?_
    refine a7 _ _ ?_
    rw [← vM r he] at a5
    refine aB ?_
    refine cR (i + 1) ?_
    refine dx ?_
    simp only [pq]
    refine aG ?_
    exact a6 _ _ _ (by omega) ⟨(i + 1), v, a9, _, rfl, rfl, rfl, a5, a0, (by omega)⟩
  ·by_cases he : (bJ k).testBit i = true
   ·have hx := qD he
    have hpl := jX ok i (by omega)
    refine aB ?_
    refine dx ?_
    refine dr (.slice x2 r.last.length y2) (fM (i := i) Tryz.underlying91 (iR _) rfl rfl (by omega) (aZ _) (by rw [h4]; rfl)) ?_
    refine aC ?_
    refine wlK a8 ?_
    refine sk fun j1 c7 => ?_
    refine aC ?_
    refine dr (pP 0 k) (gJ (i := k) Tryz.underlying92 (fI _) rfl rfl (by omega)) ?_
    simp only [pq]
    refine dr _ (aD rfl (aQ (bM _) (kM (hh.below a5.gr.below) hk))) ?_
    refine dx ?_
    refine dr (nI ((bJ k) / 2 ^ i)) (iO (m := (bJ k)) (n := i) rfl rfl (by omega)) ?_
    simp only [pq]
    refine dr (.int .i64 (((((bJ k) / 2 ^ i) % 2) : Nat) : Int)) (fN (m := ((bJ k) / 2 ^ i)) rfl rfl) ?_
    refine dr bT (dH (m := (((((bJ k) / 2 ^ i) % 2) : Nat) : Int)) (n := (1 : Int)) (b := true) rfl rfl (beq_iff_eq.2 (by rw [hx]; rfl))) ?_
    refine wn c7 ?_
    refine aI ?_
    refine aB ?_
    refine aC ?_
    refine dr (bv (b8 r.last.length)) (aU (v := (nI r.last.length)) rfl (iZ r.last.length _)) ?_
    refine bH a5 (v := fun n => .slice (aA n 0) 1 1) rfl (cN (ps := #[(0, (bv (b8 r.last.length)))]) (cells := #[(bv (b8 r.last.length))]) (E := 5) (cZ rfl) (fun w => by kernel_rfl)) (fun j2 j3 d7 => ?_)
    refine fH (i := 0) (r := 0) (p := (b8 r.last.length)) (cs := [(bv (b8 r.last.length))]) d7 rfl i5 (.int .u8 0) 1 Tryz.underlying25 hi5 hz5 hs5 hb5 rfl (by decide) rfl rfl rfl rfl rfl (sH (b8 r.last.length)) (rfl) (zZe _) d7.gr.below.size (by unfold maxLen; simp only [zZg, zZf]; omega) (by simp only [zZg, zZf]; omega) ?_
    intro j4 j5 b5 f1
    simp only [pq]
    have b5 := St.drop b5 (.cons _ (zZd _))
    refine dx ?_
    refine eH (r := 0) (u := (.slice x2 r.last.length y2)) b5 rfl i5 (.int .u8 0) 1 Tryz.underlying25 hi5 hz5 hs5 hb5 rfl (by decide) rfl rfl rfl (Sl.toW (Bs.sl (h2.mono a0)) (b5).sat) ByC.one (zZe _) b5.gr.below.size (by unfold maxLen; simp only [zZg, zZf, zZj]; omega) (by simp only [zZg, zZf, zZj]; omega) ?_
    intro f2 j6 d8 f3
    refine dy ?_
    refine wlK a7 ?_
    rw [show (((b8 k :: iK (bJ k) r i) ++ [(b8 r.last.length)]) ++ r.last) = b8 k :: iK (bJ k) r (i + 1) from by rw [sN r he, h4]; simp [Rq.part]] at d8
    refine aB ?_
    refine cR (i + 1) ?_
    refine dx ?_
    simp only [pq]
    refine aG ?_
    exact a6 _ _ _ (by omega) ⟨(i + 1), f2, a9, _, rfl, rfl, rfl, d8, a0, (by omega)⟩
   ·have he : (bJ k).testBit i = false := by simpa using he
    have hx := uN he
    have hpl := jX ok i (by omega)
    refine aB ?_
    refine dx ?_
    refine dr (.slice x2 r.last.length y2) (fM (i := i) Tryz.underlying91 (iR _) rfl rfl (by omega) (aZ _) (by rw [h4]; rfl)) ?_
    refine aC ?_
    refine wlK a8 ?_
    refine sk fun j7 c8 => ?_
    refine aC ?_
    refine dr (pP 0 k) (gJ (i := k) Tryz.underlying92 (fI _) rfl rfl (by omega)) ?_
    simp only [pq]
    refine dr _ (aD rfl (aQ (bM _) (kM (hh.below a5.gr.below) hk))) ?_
    refine dx ?_
    refine dr (nI ((bJ k) / 2 ^ i)) (iO (m := (bJ k)) (n := i) rfl rfl (by omega)) ?_
    simp only [pq]
    refine dr (.int .i64 (((((bJ k) / 2 ^ i) % 2) : Nat) : Int)) (fN (m := ((bJ k) / 2 ^ i)) rfl rfl) ?_
    refine dr bF (dH (m := (((((bJ k) / 2 ^ i) % 2) : Nat) : Int)) (n := (1 : Int)) (b := false) rfl rfl (beq_eq_false_iff_ne.2 (by rw [hx]; decide))) ?_
    refine wn c8 ?_
    refine aF ?_
    refine aH ?_
    refine a7 _ _ ?_
    rw [← vM r he] at a5
    refine aB ?_
    refine cR (i + 1) ?_
    refine dx ?_
    simp only [pq]
    refine aG ?_
    exact a6 _ _ _ (by omega) ⟨(i + 1), v, a9, _, rfl, rfl, rfl, a5, a0, (by omega)⟩
  ·by_cases he : (bJ k).testBit i = true
   ·have hx := qD he
    have hpl := jX ok i (by omega)
    refine aB ?_
    refine dx ?_
    refine dr (.slice x3 r.value.length y3) (fM (i := i) Tryz.underlying91 (iR _) rfl rfl (by omega) (aZ _) (by rw [h4]; rfl)) ?_
    refine aC ?_
    refine wlK a8 ?_
    refine sk fun j8 c9 => ?_
    refine aC ?_
    refine dr (pP 0 k) (gJ (i := k) Tryz.underlying92 (fI _) rfl rfl (by omega)) ?_
    simp only [pq]
    refine dr _ (aD rfl (aQ (bM _) (kM (hh.below a5.gr.below) hk))) ?_
    refine dx ?_
    refine dr (nI ((bJ k) / 2 ^ i)) (iO (m := (bJ k)) (n := i) rfl rfl (by omega)) ?_
    simp only [pq]
    refine dr (.int .i64 (((((bJ k) / 2 ^ i) % 2) : Nat) : Int)) (fN (m := ((bJ k) / 2 ^ i)) rfl rfl) ?_
    refine dr bT (dH (m := (((((bJ k) / 2 ^ i) % 2) : Nat) : Int)) (n := (1 : Int)) (b := true) rfl rfl (beq_iff_eq.2 (by rw [hx]; rfl))) ?_
    refine wn c9 ?_
    refine aI ?_
    refine aB ?_
    refine aC ?_
    refine dr (bv (b8 r.value.length)) (aU (v := (nI r.value.length)) rfl (iZ r.value.length _)) ?_
    refine bH a5 (v := fun n => .slice (aA n 0) 1 1) rfl (cN (ps := #[(0, (bv (b8 r.value.length)))]) (cells := #[(bv (b8 r.value.length))]) (E := 5) (cZ rfl) (fun w => by kernel_rfl)) (fun j9 k0 d9 => ?_)
    refine fH (i := 0) (r := 0) (p := (b8 r.value.length)) (cs := [(bv (b8 r.value.length))]) d9 rfl i5 (.int .u8 0) 1 Tryz.underlying25 hi5 hz5 hs5 hb5 rfl (by decide) rfl rfl rfl rfl rfl (sH (b8 r.value.length)) (rfl) (zZe _) d9.gr.below.size (by unfold maxLen; simp only [zZg, zZf]; omega) (by simp only [zZg, zZf]; omega) ?_
    intro k1 k2 b6 f4
    simp only [pq]
    have b6 := St.drop b6 (.cons _ (zZd _))
    refine dx ?_
    refine eH (r := 0) (u := (.slice x3 r.value.length y3)) b6 rfl i5 (.int .u8 0) 1 Tryz.underlying25 hi5 hz5 hs5 hb5 rfl (by decide) rfl rfl rfl (Sl.toW (Bs.sl (h3.mono a0)) (b6).sat) ByC.one (zZe _) b6.gr.below.size (by unfold maxLen; simp only [zZg, zZf, zZj]; omega) (by simp only [zZg, zZf, zZj]; omega) ?_
    intro f5 k3 e0 f6
    refine dy ?_
    refine wlK a7 ?_
    rw [show (((b8 k :: iK (bJ k) r i) ++ [(b8 r.value.length)]) ++ r.value) = b8 k :: iK (bJ k) r (i + 1) from by rw [sN r he, h4]; simp [Rq.part]] at e0
    refine aB ?_
    refine cR (i + 1) ?_
    refine dx ?_
    simp only [pq]
    refine aG ?_
    exact a6 _ _ _ (by omega) ⟨(i + 1), f5, a9, _, rfl, rfl, rfl, e0, a0, (by omega)⟩
   ·have he : (bJ k).testBit i = false := by simpa using he
    have hx := uN he
    have hpl := jX ok i (by omega)
    refine aB ?_
    refine dx ?_
    refine dr (.slice x3 r.value.length y3) (fM (i := i) Tryz.underlying91 (iR _) rfl rfl (by omega) (aZ _) (by rw [h4]; rfl)) ?_
    refine aC ?_
    refine wlK a8 ?_
    refine sk fun k4 d0 => ?_
    refine aC ?_
    refine dr (pP 0 k) (gJ (i := k) Tryz.underlying92 (fI _) rfl rfl (by omega)) ?_
    simp only [pq]
    refine dr _ (aD rfl (aQ (bM _) (kM (hh.below a5.gr.below) hk))) ?_
    refine dx ?_
    refine dr (nI ((bJ k) / 2 ^ i)) (iO (m := (bJ k)) (n := i) rfl rfl (by omega)) ?_
    simp only [pq]
    refine dr (.int .i64 (((((bJ k) / 2 ^ i) % 2) : Nat) : Int)) (fN (m := ((bJ k) / 2 ^ i)) rfl rfl) ?_
    refine dr bF (dH (m := (((((bJ k) / 2 ^ i) % 2) : Nat) : Int)) (n := (1 : Int)) (b := false) rfl rfl (beq_eq_false_iff_ne.2 (by rw [hx]; decide))) ?_
    refine wn d0 ?_
    refine aF ?_
    refine aH ?_
    refine a7 _ _ ?_
    rw [← vM r he] at a5
    refine aB ?_
    refine cR (i + 1) ?_
    refine dx ?_
    simp only [pq]
    refine aG ?_
    exact a6 _ _ _ (by omega) ⟨(i + 1), v, a9, _, rfl, rfl, rfl, a5, a0, (by omega)⟩
 ·refine eM ?_
  refine wn b2 ?_
  refine aE fun k5 f7 => ?_
  refine aF ?_
  refine cP ?_
  refine c0 _ _ ?_
  refine sk fun k6 d1 => ?_
  refine aC ?_
  refine wn d1 ?_
  refine aO ?_
  try simp only [xt]
  refine bR (cI rfl (gD rfl) (gD rfl)) ?_
  ·have hi5 : i = 4 := by omega
   subst hi5
   rw [RL] at a5
   obtain ⟨k7, f8, f9, b0⟩ := St.freeze a5 (i := 0) rfl (zZe _)
   have b0 : Bys _ v (b8 k :: IW (bJ k) r) := b0
   exact ⟨_, _, rfl, f8.gr, _, rfl, eF b0⟩
theorem nK (w : World) : (isAgg 150).run Tryz.prog w = .ok false w := by kernel_rfl
theorem jY (w : World) : (sizeOf 150).run Tryz.prog w = .ok 1 w := by kernel_rfl
theorem Sl.dropW {α : Type} {k : Nat} {R : Fz → List Value → α → Prop} {F : Fz} {a : Option Addr} {n c m : Nat} {l : List α} (hk : 0 < k) (h : Sl k R F (.slice a n c) l) (hm : m ≤ n) : Sl k R F (.slice (if c = m then a else a.map (·.add (m * k))) (n - m) (c - m)) (l.drop m) := by
 have hn := Sl.len h
 obtain ⟨el, h1, h2, h3⟩ := h
 obtain ⟨a0, c0, e1, q1, q2, q3, q4⟩ := h1
 injection e1 with e1 e2 e3
 subst e1; subst e3
 have hll := h2.len
 by_cases hmn : m = l.length
 have e : l.drop m = [] := List.drop_of_length_le (by omega)
 have e0 : n - m = 0 := by omega
 rw [e, e0]
 refine ⟨[], ⟨_, c - m, rfl, by simp, by omega, fun e => ?_, .inl rfl⟩, trivial, by simp⟩
 cases a with
 | none => have := q3 rfl; exact ⟨rfl, by omega⟩
 | some ad => split at e <;> cases e
 have hpos : el.flatten ≠ [] := by
  intro e
  have := congrArg List.length e
  rw [fV h3, hll] at this
  have := Nat.mul_pos (show 0 < l.length by omega) hk
  simp at *
  omega
 obtain ⟨b, o, e, hc⟩ := q4.resolve_left hpos
 subst e
 rw [zZa (by omega)]
 have hs : Sl k R F (.slice (some ⟨b, o, none⟩) n c) l := ⟨el, ⟨_, _, by rw [hn], q1, q2, q3, .inr ⟨b, o, rfl, hc⟩⟩, h2, h3⟩
 have := Sl.dropN (m := m) hs hm rfl rfl
 show Sl k R F (.slice (some (Addr.add ⟨b, o, none⟩ (m * k))) _ _) _
 rw [Addr.add_mid]
 exact this
theorem Am {b : By} {c : UInt8} (h : b[0]? = some c) (hl : ¬ 4000 < b.length) : wdE b = if c.toNat < 1 ∨ 8 < c.toNat then 5 else match oN (bJ c.toNat) (b.drop 1) with
    | none => 14
    | some p => if 0 < p.2.length then 4 else vY c.toNat p.1.name.length p.1.key.length p.1.last.length p.1.value.length := by
  cases b with
  | nil => cases h
  | cons y t =>
    simp only [zZp, Option.some.injEq] at h
    subst h
    unfold wdE
    rw [zZa hl]
    rfl
theorem Iz {b : By} {c : UInt8} {p : Rq × By} (h : b[0]? = some c) (he : wdE b = 0) (hd : oN (bJ c.toNat) (b.drop 1) = some p) : wdR b = (c.toNat, p.1) := by
 cases b with
 | nil => cases h
 | cons y t =>
  simp only [zZp, Option.some.injEq] at h
  subst h
  simp only [List.drop_succ_cons, List.drop_zero] at hd
  unfold wdR
  rw [zZb he]
  simp only [hd]
def An (b : By) (F : Fz) (u : Value) : Prop := ∃ x, u = .tuple #[x, .int .i64 (wdE b)] ∧ BG F x ((wdR b).1 : Nat) (wdR b).2.name (wdR b).2.key (wdR b).2.last (wdR b).2.value
theorem iE {b : By} {F : Fz} {e : Int} (he : wdE b = e) (h0 : e ≠ 0) : An b F (.tuple #[.agg #[.int .i64 0, .slice none 0 0, .slice none 0 0, .slice none 0 0, .slice none 0 0], .int .i64 e]) := by
 unfold An
 rw [Ey (by rw [he]; exact h0), he]
 exact ⟨_, rfl, _, _, _, _, rfl, Bs.nil _, Bs.nil _, Bs.nil _, Bs.nil _⟩
theorem BI (F : Fz) (w : World) (v : Value) (b : By) (hs : Sat w F) (hh : Has w) (hb : Bs F v b) :
    Calls Tryz.prog 77 #[v] w (dF w F (An b)) := by
 obtain ⟨x, y, rfl, hc1', hc2'⟩ := hb.shape
 unfold maxLen at hc2'
 have S := St.start hs
 go_enter Tryz.func77, Tryz.ntmps77
 refine sk fun K1 hK1 => ?_
 refine sA S (xY _) fun n2 w3 S4 => ?_
 refine dy ?_
 refine wn hK1 ?_
 refine aE fun K5 hK5 => ?_
 refine sk fun K6 hK6 => ?_
 refine aC ?_
 by_cases o8 : 4000 < b.length
 ·refine qX ?_
  refine wn hK6 ?_
  refine aI ?_
  refine aE fun K7 hK7 => ?_
  have hE : wdE b = 1 := by unfold wdE; rw [zZb (by omega)]
  refine aB ?_
  refine dr (.agg #[(iI 0), Zn, Zn, Zn, Zn]) (aK (hU) (by kernel_rfl)) ?_
  refine sW 0 S4 (bG) fun w8 S9 => ?_
  simp only [pq]
  refine dy ?_
  refine wlK hK7 ?_
  refine aO ?_
  try simp only [xt]
  refine bR (dM rfl ⟨_, rfl, lR S9 0 Tryz.underlying27 (bG)⟩ (gD rfl)) ?_
  ·exact ⟨_, _, rfl, S9.gr, iE hE (by decide)⟩
 ·refine lS ?_
  refine wn hK6 ?_
  refine aF ?_
  refine aH ?_
  refine hK5 _ _ ?_
  refine aE fun v3 i6 => ?_
  refine aE fun v4 d1 => ?_
  have hl4 : ¬ 4000 < b.length := by omega
  refine aB ?_
  refine aC ?_
  by_cases o9 : b.length = 0
  ·refine iA ?_
   refine wlK d1 ?_
   refine aI ?_
   refine aE fun v5 i7 => ?_
   have hE : wdE b = 14 := by rw [List.eq_nil_of_length_eq_zero (show b.length = 0 by omega)]; rfl
   refine aB ?_
   refine dr (.agg #[(iI 0), Zn, Zn, Zn, Zn]) (aK (hU) (by kernel_rfl)) ?_
   refine sW 0 S4 (bG) fun v6 m7 => ?_
   refine aC ?_
   refine wlK i7 ?_
   refine aO ?_
   try simp only [xt]
   refine bR (dM rfl ⟨_, rfl, lR m7 0 Tryz.underlying27 (bG)⟩ (gD rfl)) ?_
   ·exact ⟨_, _, rfl, m7.gr, iE hE (by decide)⟩
  ·refine gH ?_
   refine wlK d1 ?_
   refine aF ?_
   refine aH ?_
   refine i6 _ _ ?_
   refine aE fun v7 i8 => ?_
   obtain ⟨c0, hc0⟩ : ∃ c, b[0]? = some c := ⟨b[0], zZc (by omega)⟩
   have hb8 := UInt8.toNat_lt c0
   obtain ⟨m8, m9, i9, p0⟩ := Bs.get hb hc0
   refine aB ?_
   refine dx ?_
   refine dr (pP m8 (m9 + 0 * 1)) (bN (i := 0) (sz := 1) Tryz.underlying25 (bO _) rfl i9 rfl (by omega) rfl) ?_
   refine dr _ (aD rfl (aQ (jR _) (St.fz S4 p0))) ?_
   simp only [pq]
   refine dr (nI c0.toNat) (aU (v := (bv c0)) rfl (jF c0 _)) ?_
   refine dr (.agg #[(nI c0.toNat), Zn, Zn, Zn, Zn]) (aK (cZ rfl) (by kernel_rfl)) ?_
   refine sA S4 (xY _) fun a5 v8 p1 => ?_
   simp only [pq]
   refine sW 0 p1 (bG) fun v9 j0 => ?_
   refine wlK i8 ?_
   refine aE fun w0 j1 => ?_
   refine sk fun w1 c4 => ?_
   refine aC ?_
   by_cases p2 : c0.toNat < 1
   ·refine eS ?_
    refine aC ?_
    refine wn c4 ?_
    refine aI ?_
    refine aE fun w2 j2 => ?_
    have hE : wdE b = 5 := by rw [Am hc0 hl4, zZb (by omega)]
    refine aB ?_
    refine dr (.agg #[(iI 0), Zn, Zn, Zn, Zn]) (aK (hU) (by kernel_rfl)) ?_
    refine sW 1 j0 (bG) fun w4 n0 => ?_
    refine dy ?_
    simp only [pq]
    refine wlK j2 ?_
    refine aO ?_
    try simp only [xt]
    refine bR (dM rfl ⟨_, rfl, lR n0 1 Tryz.underlying27 (bG)⟩ (gD rfl)) ?_
    ·exact ⟨_, _, rfl, n0.gr, iE hE (by decide)⟩
   ·refine eM ?_
    refine aC ?_
    by_cases p3 : 8 < c0.toNat
    ·refine qX ?_
     refine dp ?_
     refine wn c4 ?_
     refine aI ?_
     refine aE fun w5 j3 => ?_
     have hE : wdE b = 5 := by rw [Am hc0 hl4, zZb (by omega)]
     refine aB ?_
     refine dr (.agg #[(iI 0), Zn, Zn, Zn, Zn]) (aK (hU) (by kernel_rfl)) ?_
     simp only [pq]
     refine sW 1 j0 (bG) fun w6 n1 => ?_
     refine dy ?_
     refine wlK j3 ?_
     refine aO ?_
     try simp only [xt]
     refine bR (dM rfl ⟨_, rfl, lR n1 1 Tryz.underlying27 (bG)⟩ (gD rfl)) ?_
     ·exact ⟨_, _, rfl, n1.gr, iE hE (by decide)⟩
    ·refine lS ?_
     refine aC ?_
     refine wn c4 ?_
     refine aF ?_
     refine aH ?_
     refine j1 _ _ ?_
     refine aE fun w7 j4 => ?_
     have hk : 1 ≤ c0.toNat ∧ c0.toNat ≤ 8 := by omega
     have hwd := Am hc0 hl4
     rw [zZa (by omega)] at hwd
     refine aB ?_
     refine aC ?_
     have p4 : Bs _ (.slice (if y = 1 then x else x.map (·.add (1 * 1))) (b.length - 1) (y - 1)) (b.drop 1) := Bs.rest hb (by omega)
     refine dr (.slice (if y = 1 then x else x.map (·.add (1 * 1))) (b.length - 1) (y - 1)) (bD (l := 1) (h := b.length) (sz := 1) Tryz.underlying25 rfl (bO _) (.inr ⟨_, rfl, rfl⟩) (.inl ⟨rfl, rfl⟩) (by omega) (by omega) (rfl)) ?_
     refine dy ?_
     refine wlK j4 ?_
     refine aE fun w9 j5 => ?_
     refine sk fun x0 j6 => ?_
     refine aC ?_
     refine dr (.agg #[(pP a5 1), (pP a5 2), (pP a5 3), (pP a5 4)]) (aK (qW rfl rfl rfl rfl) (by kernel_rfl)) ?_
     refine aC ?_
     refine wn j6 ?_
     refine aN ?_
     refine aX (fun mm aa p5 => ∃ (i : Nat) (r : Rq) (a0 : Option Addr) (e0 : Nat) (a1 : Option Addr) (e1 : Nat) (a2 : Option Addr) (e2 : Nat) (a3 : Option Addr) (e3 : Nat) (ra : Option Addr) (rn : Nat) (rc : Nat) (rest : By) (b3 : Fz) (d2 : Nat → Value), mm = 4 - i ∧ d2 = dX aa ∧ aa = ⟨([(.slice x b.length y), undef, (pP n2 0), (d2 3), (pP a5 0), (.slice ra rn rc)] ++ (usF d2 6 3 ([undef, (.slice x b.length y), (nI b.length), bF, undef, (.slice x b.length y), (nI b.length), bF, undef, (.slice x b.length y), (pP m8 (m9 + 0 * 1)), (bv c0), (nI c0.toNat), (.agg #[(nI c0.toNat), Zn, Zn, Zn, Zn]), (pP a5 0), (nI c0.toNat), bF, bF, (pP a5 0), (nI c0.toNat), bF, bF, undef, (.slice x b.length y), (.slice (if y = 1 then x else x.map (·.add (1 * 1))) (b.length - 1) (y - 1)), (pP a5 1), (pP a5 2), (pP a5 3), (pP a5 4), (.agg #[(pP a5 1), (pP a5 2), (pP a5 3), (pP a5 4)]), (nI i)] ++ (usF d2 40 40 (udF 11 []))))).toArray, []⟩ ∧ St w F p5 b3 [⟨a5, [(nI c0.toNat), (.slice a0 r.name.length e0), (.slice a1 r.key.length e1), (.slice a2 r.last.length e2), (.slice a3 r.value.length e3)], 27⟩, ⟨n2, [(iI 0), Zn, Zn, Zn, Zn], 27⟩] [] ∧ Le F b3 ∧ (i ≤ 4) ∧ (Bs b3 (.slice a0 r.name.length e0) r.name) ∧ (Bs b3 (.slice a1 r.key.length e1) r.key) ∧ (Bs b3 (.slice a2 r.last.length e2) r.last) ∧ (Bs b3 (.slice a3 r.value.length e3) r.value) ∧ (Bs b3 (.slice ra rn rc) rest) ∧ (rest.length ≤ 4000) ∧ (eL (bJ c0.toNat) (4 - i) i r rest = oN (bJ c0.toNat) (b.drop 1))) _ ⟨0, ⟨[], [], [], []⟩, none, 0, none, 0, none, 0, none, 0, (if y = 1 then x else x.map (·.add (1 * 1))), (b.length - 1), (y - 1), (b.drop 1), F, _, rfl, rfl, rfl, j0, Le.refl _, (by omega), (Bs.nil _), (Bs.nil _), (Bs.nil _), (Bs.nil _), p4, (by simp only [zZn]; omega), (OC _ _)⟩ ?_
     rintro x1 x2 x3 ⟨i, r, a0, e0, a1, e1, a2, e2, a3, e3, ra, rn, rc, rest, b3, d2, rfl, -, hfr, a4, a6, hi4, hf0, hf1, hf2, hf3, hrest, hrl, hinv⟩ x4 a7
     simp only [uzF, Nat.reduceAdd] at hfr; subst hfr
     refine sk fun x5 d3 => ?_
     by_cases p6 : i < 4
     ·refine eS ?_
      refine wn d3 ?_
      refine aE fun x6 j7 => ?_
      refine aI ?_
      refine aH ?_
      refine j7 _ _ ?_
      refine aE fun x7 a8 => ?_
      refine aN ?_
      refine aE fun x8 a9 => ?_
      rcases (by omega : i = 0 ∨ i = 1 ∨ i = 2 ∨ i = 3) with h4 | h4 | h4 | h4
      ·by_cases he : (bJ c0.toNat).testBit i = true
       ·have hx := qD he
        have hrn := hrest.len
        have hcap : rest.length ≤ rc := by obtain ⟨_, _, e, q, _⟩ := hrest.shape; injection e with _ _ e; rw [e]; exact q
        refine aB ?_
        refine dx ?_
        refine dr (pP a5 1) (fM (i := i) Tryz.underlying151 (jY _) rfl rfl (by omega) (nK _) (by rw [h4]; rfl)) ?_
        refine aC ?_
        refine wlK a9 ?_
        refine aE fun x9 j8 => ?_
        refine sk fun y0 j9 => ?_
        refine aC ?_
        refine dr (pP 0 (c0.toNat)) (gJ (i := c0.toNat) Tryz.underlying92 (fI _) rfl rfl (by omega)) ?_
        simp only [pq]
        refine dr _ (aD rfl (aQ (bM _) (kM (hh.below a4.gr.below) hk))) ?_
        refine dx ?_
        refine dr (nI ((bJ c0.toNat) / 2 ^ i)) (iO (m := (bJ c0.toNat)) (n := i) rfl rfl (by omega)) ?_
        simp only [pq]
        refine dr (.int .i64 (((((bJ c0.toNat) / 2 ^ i) % 2) : Nat) : Int)) (fN (m := ((bJ c0.toNat) / 2 ^ i)) rfl rfl) ?_
        refine dr bF (dH (m := (((((bJ c0.toNat) / 2 ^ i) % 2) : Nat) : Int)) (n := (0 : Int)) (b := false) rfl rfl (beq_eq_false_iff_ne.2 (by rw [hx]; decide))) ?_
        refine wn j9 ?_
        refine aF ?_
        refine aH ?_
        refine j8 _ _ ?_
        refine aE fun y1 k0 => ?_
        refine aE fun y2 c5 => ?_
        by_cases hz : rest.length = 0
        ·refine aB ?_
         refine aC ?_
         refine iA ?_
         refine aC ?_
         refine wlK c5 ?_
         refine aI ?_
         refine aE fun y3 k1 => ?_
         have hN : oN (bJ c0.toNat) (b.drop 1) = none := by rw [← hinv, show 4 - i = (3 - i) + 1 from by omega]; exact cF he (yT hz)
         have hE : wdE b = 14 := by rw [hwd, hN]
         refine aB ?_
         refine dr (.agg #[(iI 0), Zn, Zn, Zn, Zn]) (aK (hU) (by kernel_rfl)) ?_
         refine sW 1 a4 (bG) fun y4 n3 => ?_
         refine aC ?_
         refine wlK k1 ?_
         refine aO ?_
         try simp only [xt]
         refine bR (dM rfl ⟨_, rfl, lR n3 1 Tryz.underlying27 (bG)⟩ (gD rfl)) ?_
         ·exact ⟨_, _, rfl, n3.gr, iE hE (by decide)⟩
        ·obtain ⟨c1, hc1⟩ : ∃ c, rest[0]? = some c := ⟨rest[0], zZc (by omega)⟩
         have hb9 := UInt8.toNat_lt c1
         obtain ⟨n4, n5, d4, n6⟩ := Bs.get hrest hc1
         refine aB ?_
         refine aC ?_
         refine gH ?_
         refine aC ?_
         refine dr (pP n4 (n5 + 0 * 1)) (bN (i := 0) (sz := 1) Tryz.underlying25 (bO _) rfl d4 rfl (by omega) rfl) ?_
         refine dr _ (aD rfl (aQ (jR _) (St.fz a4 n6))) ?_
         simp only [pq]
         refine dr (nI c1.toNat) (aU (v := (bv c1)) rfl (jF c1 _)) ?_
         refine cR (1 + c1.toNat) ?_
         simp only [pq]
         by_cases c6 : rn < (1 + c1.toNat)
         ·refine eS ?_
          refine dp ?_
          refine wlK c5 ?_
          refine aI ?_
          refine aE fun y5 k2 => ?_
          have hN : oN (bJ c0.toNat) (b.drop 1) = none := by rw [← hinv, show 4 - i = (3 - i) + 1 from by omega]; exact cF he (sO hc1 (by omega))
          have hE : wdE b = 14 := by rw [hwd, hN]
          refine aB ?_
          refine dr (.agg #[(iI 0), Zn, Zn, Zn, Zn]) (aK (hU) (by kernel_rfl)) ?_
          simp only [pq]
          refine sW 1 a4 (bG) fun y6 n7 => ?_
          refine dy ?_
          refine wlK k2 ?_
          refine aO ?_
          try simp only [xt]
          refine bR (dM rfl ⟨_, rfl, lR n7 1 Tryz.underlying27 (bG)⟩ (gD rfl)) ?_
          ·exact ⟨_, _, rfl, n7.gr, iE hE (by decide)⟩
         ·refine eM ?_
          refine aC ?_
          refine wlK c5 ?_
          refine aF ?_
          refine aH ?_
          refine k0 _ _ ?_
          refine sk fun y7 k3 => ?_
          refine dx ?_
          refine dr (pP n4 (n5 + 0 * 1)) (bN (i := 0) (sz := 1) Tryz.underlying25 (bO _) rfl d4 rfl (by omega) rfl) ?_
          refine dr _ (aD rfl (aQ (jR _) (St.fz a4 n6))) ?_
          simp only [pq]
          refine dr (nI c1.toNat) (aU (v := (bv c1)) rfl (jF c1 _)) ?_
          refine cR (1 + c1.toNat) ?_
          refine aC ?_
          refine wn k3 ?_
          refine sk fun y8 k4 => ?_
          refine aC ?_
          have k5 : Bs _ (.slice ra (1 + c1.toNat) rc) (rest.take (1 + c1.toNat)) := eF (Sl.takeN (m := (1 + c1.toNat)) (Bs.sl hrest) (by omega))
          have k5 : Bs _ (.slice (if rc = 1 then ra else ra.map (·.add (1 * 1))) ((1 + c1.toNat) - 1) (rc - 1)) ((rest.take (1 + c1.toNat)).drop 1) := Bs.rest k5 (by omega)
          refine dr (.slice (if rc = 1 then ra else ra.map (·.add (1 * 1))) ((1 + c1.toNat) - 1) (rc - 1)) (bD (l := 1) (h := (1 + c1.toNat)) (sz := 1) Tryz.underlying25 rfl (bO _) (.inr ⟨_, rfl, rfl⟩) (.inr ⟨_, rfl, rfl⟩) (by omega) (by omega) (rfl)) ?_
          refine aR a4 rfl (fn1 (gM _ _)) (dG _ _ _ ((rest.take (1 + c1.toNat)).drop 1) (a4).sat k5 (by simp only [zZn, zZh]; omega)) ?_
          intro y9 z0 p7 p8 b4 n8
          obtain ⟨k6, k7, rfl, _⟩ := n8.shape
          refine di ?_
          refine sW 0 p8 (kX) fun z1 p9 => ?_
          simp only [pq]
          refine wn k4 ?_
          refine aB ?_
          refine aC ?_
          have q0 : Bs _ (.slice (if rc = (1 + c1.toNat) then ra else ra.map (·.add ((1 + c1.toNat) * 1))) (rn - (1 + c1.toNat)) (rc - (1 + c1.toNat))) (rest.drop (1 + c1.toNat)) := Bs.rest (hrest.mono b4) (by omega)
          refine dr (.slice (if rc = (1 + c1.toNat) then ra else ra.map (·.add ((1 + c1.toNat) * 1))) (rn - (1 + c1.toNat)) (rc - (1 + c1.toNat))) (bD (l := (1 + c1.toNat)) (h := rn) (sz := 1) Tryz.underlying25 rfl (bO _) (.inr ⟨_, rfl, rfl⟩) (.inl ⟨rfl, rfl⟩) (by omega) (by omega) (rfl)) ?_
          refine dy ?_
          refine wlK a8 ?_
          refine aB ?_
          refine cR (i + 1) ?_
          refine aC ?_
          refine aG ?_
          exact a7 _ _ _ (by omega) ⟨(i + 1), (⟨((rest.take (1 + c1.toNat)).drop 1), r.key, r.last, r.value⟩ : Rq), k6, k7, a1, e1, a2, e2, a3, e3, (if rc = (1 + c1.toNat) then ra else ra.map (·.add ((1 + c1.toNat) * 1))), (rn - (1 + c1.toNat)), (rc - (1 + c1.toNat)), (rest.drop (1 + c1.toNat)), p7, _, rfl, rfl, rfl, p9, (a6.trans b4), (by omega), n8, (hf1.mono b4), (hf2.mono b4), (hf3.mono b4), q0, (by simp only [zZn]; omega), (by subst h4; rw [← hinv]; exact (dD (n := 3) he (vN hc1 (by omega))).symm)⟩
       ·have he : (bJ c0.toNat).testBit i = false := by simpa using he
        have hx := uN he
        have hrn := hrest.len
        have hcap : rest.length ≤ rc := by obtain ⟨_, _, e, q, _⟩ := hrest.shape; injection e with _ _ e; rw [e]; exact q
        refine aB ?_
        refine dx ?_
        refine dr (pP a5 1) (fM (i := i) Tryz.underlying151 (jY _) rfl rfl (by omega) (nK _) (by rw [h4]; rfl)) ?_
        refine aC ?_
        refine wlK a9 ?_
        refine aE fun z2 q1 => ?_
        refine sk fun z3 k8 => ?_
        refine aC ?_
        refine dr (pP 0 (c0.toNat)) (gJ (i := c0.toNat) Tryz.underlying92 (fI _) rfl rfl (by omega)) ?_
        simp only [pq]
        refine dr _ (aD rfl (aQ (bM _) (kM (hh.below a4.gr.below) hk))) ?_
        refine dx ?_
        refine dr (nI ((bJ c0.toNat) / 2 ^ i)) (iO (m := (bJ c0.toNat)) (n := i) rfl rfl (by omega)) ?_
        simp only [pq]
        refine dr (.int .i64 (((((bJ c0.toNat) / 2 ^ i) % 2) : Nat) : Int)) (fN (m := ((bJ c0.toNat) / 2 ^ i)) rfl rfl) ?_
        refine dr bT (dH (m := (((((bJ c0.toNat) / 2 ^ i) % 2) : Nat) : Int)) (n := (0 : Int)) (b := true) rfl rfl (beq_iff_eq.2 (by rw [hx]; rfl))) ?_
        refine wn k8 ?_
        refine aI ?_
        refine cP ?_
        refine a8 _ _ ?_
        refine aB ?_
        refine cR (i + 1) ?_
        refine aC ?_
        refine aG ?_
        exact a7 _ _ _ (by omega) ⟨(i + 1), r, a0, e0, a1, e1, a2, e2, a3, e3, ra, rn, rc, rest, b3, _, rfl, rfl, rfl, a4, a6, (by omega), hf0, hf1, hf2, hf3, hrest, (by omega), (by subst h4; rw [← hinv]; exact (dY (n := 3) he).symm)⟩
      ·by_cases he : (bJ c0.toNat).testBit i = true
       ·have hx := qD he
        have hrn := hrest.len
        have hcap : rest.length ≤ rc := by obtain ⟨_, _, e, q, _⟩ := hrest.shape; injection e with _ _ e; rw [e]; exact q
        refine aB ?_
        refine dx ?_
        refine dr (pP a5 2) (fM (i := i) Tryz.underlying151 (jY _) rfl rfl (by omega) (nK _) (by rw [h4]; rfl)) ?_
        refine aC ?_
        refine wlK a9 ?_
        refine aE fun z4 k9 => ?_
        refine sk fun z5 l0 => ?_
        refine aC ?_
        refine dr (pP 0 (c0.toNat)) (gJ (i := c0.toNat) Tryz.underlying92 (fI _) rfl rfl (by omega)) ?_
        simp only [pq]
        refine dr _ (aD rfl (aQ (bM _) (kM (hh.below a4.gr.below) hk))) ?_
        refine dx ?_
        refine dr (nI ((bJ c0.toNat) / 2 ^ i)) (iO (m := (bJ c0.toNat)) (n := i) rfl rfl (by omega)) ?_
        simp only [pq]
        refine dr (.int .i64 (((((bJ c0.toNat) / 2 ^ i) % 2) : Nat) : Int)) (fN (m := ((bJ c0.toNat) / 2 ^ i)) rfl rfl) ?_
        refine dr bF (dH (m := (((((bJ c0.toNat) / 2 ^ i) % 2) : Nat) : Int)) (n := (0 : Int)) (b := false) rfl rfl (beq_eq_false_iff_ne.2 (by rw [hx]; decide))) ?_
        refine wn l0 ?_
        refine aF ?_
        refine aH ?_
        refine k9 _ _ ?_
        refine aE fun z6 l1 => ?_
        refine aE fun z7 c7 => ?_
        by_cases hz : rest.length = 0
        ·refine aB ?_
         refine aC ?_
         refine iA ?_
         refine aC ?_
         refine wlK c7 ?_
         refine aI ?_
         refine aE fun z8 l2 => ?_
         have hN : oN (bJ c0.toNat) (b.drop 1) = none := by rw [← hinv, show 4 - i = (3 - i) + 1 from by omega]; exact cF he (yT hz)
         have hE : wdE b = 14 := by rw [hwd, hN]
         refine aB ?_
         refine dr (.agg #[(iI 0), Zn, Zn, Zn, Zn]) (aK (hU) (by kernel_rfl)) ?_
         refine sW 1 a4 (bG) fun z9 n9 => ?_
         refine aC ?_
         refine wlK l2 ?_
         refine aO ?_
         try simp only [xt]
         refine bR (dM rfl ⟨_, rfl, lR n9 1 Tryz.underlying27 (bG)⟩ (gD rfl)) ?_
         ·exact ⟨_, _, rfl, n9.gr, iE hE (by decide)⟩
        ·obtain ⟨c1, hc1⟩ : ∃ c, rest[0]? = some c := ⟨rest[0], zZc (by omega)⟩
         have hb9 := UInt8.toNat_lt c1
         obtain ⟨o0, o1, d5, o2⟩ := Bs.get hrest hc1
         refine aB ?_
         refine aC ?_
         refine gH ?_
         refine aC ?_
         refine dr (pP o0 (o1 + 0 * 1)) (bN (i := 0) (sz := 1) Tryz.underlying25 (bO _) rfl d5 rfl (by omega) rfl) ?_
         refine dr _ (aD rfl (aQ (jR _) (St.fz a4 o2))) ?_
         simp only [pq]
         refine dr (nI c1.toNat) (aU (v := (bv c1)) rfl (jF c1 _)) ?_
         refine cR (1 + c1.toNat) ?_
         simp only [pq]
         by_cases c6 : rn < (1 + c1.toNat)
         ·refine eS ?_
          refine dp ?_
          refine wlK c7 ?_
          refine aI ?_
          refine aE fun ab l3 => ?_
          have hN : oN (bJ c0.toNat) (b.drop 1) = none := by rw [← hinv, show 4 - i = (3 - i) + 1 from by omega]; exact cF he (sO hc1 (by omega))
          have hE : wdE b = 14 := by rw [hwd, hN]
          refine aB ?_
          refine dr (.agg #[(iI 0), Zn, Zn, Zn, Zn]) (aK (hU) (by kernel_rfl)) ?_
          simp only [pq]
          refine sW 1 a4 (bG) fun ac o3 => ?_
          refine dy ?_
          refine wlK l3 ?_
          refine aO ?_
          try simp only [xt]
          refine bR (dM rfl ⟨_, rfl, lR o3 1 Tryz.underlying27 (bG)⟩ (gD rfl)) ?_
          ·exact ⟨_, _, rfl, o3.gr, iE hE (by decide)⟩
         ·refine eM ?_
          refine aC ?_
          refine wlK c7 ?_
          refine aF ?_
          refine aH ?_
          refine l1 _ _ ?_
          refine sk fun ad l4 => ?_
          refine dx ?_
          refine dr (pP o0 (o1 + 0 * 1)) (bN (i := 0) (sz := 1) Tryz.underlying25 (bO _) rfl d5 rfl (by omega) rfl) ?_
          refine dr _ (aD rfl (aQ (jR _) (St.fz a4 o2))) ?_
          simp only [pq]
          refine dr (nI c1.toNat) (aU (v := (bv c1)) rfl (jF c1 _)) ?_
          refine cR (1 + c1.toNat) ?_
          refine aC ?_
          refine wn l4 ?_
          refine sk fun ae l5 => ?_
          refine aC ?_
          have l6 : Bs _ (.slice ra (1 + c1.toNat) rc) (rest.take (1 + c1.toNat)) := eF (Sl.takeN (m := (1 + c1.toNat)) (Bs.sl hrest) (by omega))
          have l6 : Bs _ (.slice (if rc = 1 then ra else ra.map (·.add (1 * 1))) ((1 + c1.toNat) - 1) (rc - 1)) ((rest.take (1 + c1.toNat)).drop 1) := Bs.rest l6 (by omega)
          refine dr (.slice (if rc = 1 then ra else ra.map (·.add (1 * 1))) ((1 + c1.toNat) - 1) (rc - 1)) (bD (l := 1) (h := (1 + c1.toNat)) (sz := 1) Tryz.underlying25 rfl (bO _) (.inr ⟨_, rfl, rfl⟩) (.inr ⟨_, rfl, rfl⟩) (by omega) (by omega) (rfl)) ?_
          refine aR a4 rfl (fn1 (gM _ _)) (dG _ _ _ ((rest.take (1 + c1.toNat)).drop 1) (a4).sat l6 (by simp only [zZn, zZh]; omega)) ?_
          intro q2 af q3 q4 b0 d6
          obtain ⟨d7, d8, rfl, _⟩ := d6.shape
          refine di ?_
          refine sW 0 q4 (kX) fun q5 l7 => ?_
          simp only [pq]
          refine wn l5 ?_
          refine aB ?_
          refine aC ?_
          have l8 : Bs _ (.slice (if rc = (1 + c1.toNat) then ra else ra.map (·.add ((1 + c1.toNat) * 1))) (rn - (1 + c1.toNat)) (rc - (1 + c1.toNat))) (rest.drop (1 + c1.toNat)) := Bs.rest (hrest.mono b0) (by omega)
          refine dr (.slice (if rc = (1 + c1.toNat) then ra else ra.map (·.add ((1 + c1.toNat) * 1))) (rn - (1 + c1.toNat)) (rc - (1 + c1.toNat))) (bD (l := (1 + c1.toNat)) (h := rn) (sz := 1) Tryz.underlying25 rfl (bO _) (.inr ⟨_, rfl, rfl⟩) (.inl ⟨rfl, rfl⟩) (by omega) (by omega) (rfl)) ?_
          refine dy ?_
          refine wlK a8 ?_
          refine aB ?_
          refine cR (i + 1) ?_
          refine aC ?_
          refine aG ?_
          exact a7 _ _ _ (by omega) ⟨(i + 1), (⟨r.name, ((rest.take (1 + c1.toNat)).drop 1), r.last, r.value⟩ : Rq), a0, e0, d7, d8, a2, e2, a3, e3, (if rc = (1 + c1.toNat) then ra else ra.map (·.add ((1 + c1.toNat) * 1))), (rn - (1 + c1.toNat)), (rc - (1 + c1.toNat)), (rest.drop (1 + c1.toNat)), q3, _, rfl, rfl, rfl, l7, (a6.trans b0), (by omega), (hf0.mono b0), d6, (hf2.mono b0), (hf3.mono b0), l8, (by simp only [zZn]; omega), (by subst h4; rw [← hinv]; exact (dD (n := 2) he (vN hc1 (by omega))).symm)⟩
       ·have he : (bJ c0.toNat).testBit i = false := by simpa using he
        have hx := uN he
        have hrn := hrest.len
        have hcap : rest.length ≤ rc := by obtain ⟨_, _, e, q, _⟩ := hrest.shape; injection e with _ _ e; rw [e]; exact q
        refine aB ?_
        refine dx ?_
        refine dr (pP a5 2) (fM (i := i) Tryz.underlying151 (jY _) rfl rfl (by omega) (nK _) (by rw [h4]; rfl)) ?_
        refine aC ?_
        refine wlK a9 ?_
        refine aE fun q6 o4 => ?_
        refine sk fun q7 d9 => ?_
        refine aC ?_
        refine dr (pP 0 (c0.toNat)) (gJ (i := c0.toNat) Tryz.underlying92 (fI _) rfl rfl (by omega)) ?_
        simp only [pq]
        refine dr _ (aD rfl (aQ (bM _) (kM (hh.below a4.gr.below) hk))) ?_
        refine dx ?_
        refine dr (nI ((bJ c0.toNat) / 2 ^ i)) (iO (m := (bJ c0.toNat)) (n := i) rfl rfl (by omega)) ?_
        simp only [pq]
        refine dr (.int .i64 (((((bJ c0.toNat) / 2 ^ i) % 2) : Nat) : Int)) (fN (m := ((bJ c0.toNat) / 2 ^ i)) rfl rfl) ?_
        refine dr bT (dH (m := (((((bJ c0.toNat) / 2 ^ i) % 2) : Nat) : Int)) (n := (0 : Int)) (b := true) rfl rfl (beq_iff_eq.2 (by rw [hx]; rfl))) ?_
        refine wn d9 ?_
        refine aI ?_
        refine cP ?_
        refine a8 _ _ ?_
        refine aB ?_
        refine cR (i + 1) ?_
        refine aC ?_
        refine aG ?_
        exact a7 _ _ _ (by omega) ⟨(i + 1), r, a0, e0, a1, e1, a2, e2, a3, e3, ra, rn, rc, rest, b3, _, rfl, rfl, rfl, a4, a6, (by omega), hf0, hf1, hf2, hf3, hrest, (by omega), (by subst h4; rw [← hinv]; exact (dY (n := 2) he).symm)⟩
      ·by_cases he : (bJ c0.toNat).testBit i = true
       ·have hx := qD he
        have hrn := hrest.len
        have hcap : rest.length ≤ rc := by obtain ⟨_, _, e, q, _⟩ := hrest.shape; injection e with _ _ e; rw [e]; exact q
        refine aB ?_
        refine dx ?_
        refine dr (pP a5 3) (fM (i := i) Tryz.underlying151 (jY _) rfl rfl (by omega) (nK _) (by rw [h4]; rfl)) ?_
        refine aC ?_
        refine wlK a9 ?_
        refine aE fun q8 e4 => ?_
        refine sk fun q9 e5 => ?_
        refine aC ?_
        refine dr (pP 0 (c0.toNat)) (gJ (i := c0.toNat) Tryz.underlying92 (fI _) rfl rfl (by omega)) ?_
        simp only [pq]
        refine dr _ (aD rfl (aQ (bM _) (kM (hh.below a4.gr.below) hk))) ?_
        refine dx ?_
        refine dr (nI ((bJ c0.toNat) / 2 ^ i)) (iO (m := (bJ c0.toNat)) (n := i) rfl rfl (by omega)) ?_
        simp only [pq]
        refine dr (.int .i64 (((((bJ c0.toNat) / 2 ^ i) % 2) : Nat) : Int)) (fN (m := ((bJ c0.toNat) / 2 ^ i)) rfl rfl) ?_
        refine dr bF (dH (m := (((((bJ c0.toNat) / 2 ^ i) % 2) : Nat) : Int)) (n := (0 : Int)) (b := false) rfl rfl (beq_eq_false_iff_ne.2 (by rw [hx]; decide))) ?_
        refine wn e5 ?_
        refine aF ?_
        refine aH ?_
        refine e4 _ _ ?_
        refine aE fun r0 e6 => ?_
        refine aE fun r1 b5 => ?_
        by_cases hz : rest.length = 0
        ·refine aB ?_
         refine aC ?_
         refine iA ?_
         refine aC ?_
         refine wlK b5 ?_
         refine aI ?_
         refine aE fun r2 e7 => ?_
         have hN : oN (bJ c0.toNat) (b.drop 1) = none := by rw [← hinv, show 4 - i = (3 - i) + 1 from by omega]; exact cF he (yT hz)
         have hE : wdE b = 14 := by rw [hwd, hN]
         refine aB ?_
         refine dr (.agg #[(iI 0), Zn, Zn, Zn, Zn]) (aK (hU) (by kernel_rfl)) ?_
         refine sW 1 a4 (bG) fun r3 e8 => ?_
         refine aC ?_
         refine wlK e7 ?_
         refine aO ?_
         try simp only [xt]
         refine bR (dM rfl ⟨_, rfl, lR e8 1 Tryz.underlying27 (bG)⟩ (gD rfl)) ?_
         ·exact ⟨_, _, rfl, e8.gr, iE hE (by decide)⟩
        ·obtain ⟨c1, hc1⟩ : ∃ c, rest[0]? = some c := ⟨rest[0], zZc (by omega)⟩
         have hb9 := UInt8.toNat_lt c1
         obtain ⟨e9, f0, b7, f1⟩ := Bs.get hrest hc1
         refine aB ?_
         refine aC ?_
         refine gH ?_
         refine aC ?_
         refine dr (pP e9 (f0 + 0 * 1)) (bN (i := 0) (sz := 1) Tryz.underlying25 (bO _) rfl b7 rfl (by omega) rfl) ?_
         refine dr _ (aD rfl (aQ (jR _) (St.fz a4 f1))) ?_
         simp only [pq]
         refine dr (nI c1.toNat) (aU (v := (bv c1)) rfl (jF c1 _)) ?_
         refine cR (1 + c1.toNat) ?_
         simp only [pq]
         by_cases c6 : rn < (1 + c1.toNat)
         ·refine eS ?_
          refine dp ?_
          refine wlK b5 ?_
          refine aI ?_
          refine aE fun r4 f2 => ?_
          have hN : oN (bJ c0.toNat) (b.drop 1) = none := by rw [← hinv, show 4 - i = (3 - i) + 1 from by omega]; exact cF he (sO hc1 (by omega))
          have hE : wdE b = 14 := by rw [hwd, hN]
          refine aB ?_
          refine dr (.agg #[(iI 0), Zn, Zn, Zn, Zn]) (aK (hU) (by kernel_rfl)) ?_
          simp only [pq]
          refine sW 1 a4 (bG) fun r5 f3 => ?_
          refine dy ?_
          refine wlK f2 ?_
          refine aO ?_
          try simp only [xt]
          refine bR (dM rfl ⟨_, rfl, lR f3 1 Tryz.underlying27 (bG)⟩ (gD rfl)) ?_
          ·exact ⟨_, _, rfl, f3.gr, iE hE (by decide)⟩
         ·refine eM ?_
          refine aC ?_
          refine wlK b5 ?_
          refine aF ?_
          refine aH ?_
          refine e6 _ _ ?_
          refine sk fun r6 f4 => ?_
          refine dx ?_
          refine dr (pP e9 (f0 + 0 * 1)) (bN (i := 0) (sz := 1) Tryz.underlying25 (bO _) rfl b7 rfl (by omega) rfl) ?_
          refine dr _ (aD rfl (aQ (jR _) (St.fz a4 f1))) ?_
          simp only [pq]
          refine dr (nI c1.toNat) (aU (v := (bv c1)) rfl (jF c1 _)) ?_
          refine cR (1 + c1.toNat) ?_
          refine aC ?_
          refine wn f4 ?_
          refine sk fun r7 f5 => ?_
          refine aC ?_
          have c8 : Bs _ (.slice ra (1 + c1.toNat) rc) (rest.take (1 + c1.toNat)) := eF (Sl.takeN (m := (1 + c1.toNat)) (Bs.sl hrest) (by omega))
          have c8 : Bs _ (.slice (if rc = 1 then ra else ra.map (·.add (1 * 1))) ((1 + c1.toNat) - 1) (rc - 1)) ((rest.take (1 + c1.toNat)).drop 1) := Bs.rest c8 (by omega)
          refine dr (.slice (if rc = 1 then ra else ra.map (·.add (1 * 1))) ((1 + c1.toNat) - 1) (rc - 1)) (bD (l := 1) (h := (1 + c1.toNat)) (sz := 1) Tryz.underlying25 rfl (bO _) (.inr ⟨_, rfl, rfl⟩) (.inr ⟨_, rfl, rfl⟩) (by omega) (by omega) (rfl)) ?_
          refine aR a4 rfl (fn1 (gM _ _)) (dG _ _ _ ((rest.take (1 + c1.toNat)).drop 1) (a4).sat c8 (by simp only [zZn, zZh]; omega)) ?_
          intro r8 r9 l9 m0 b1 f6
          obtain ⟨f7, f8, rfl, _⟩ := f6.shape
          refine di ?_
          refine sW 0 m0 (kX) fun s0 m1 => ?_
          simp only [pq]
          refine wn f5 ?_
          refine aB ?_
          refine aC ?_
          have m2 : Bs _ (.slice (if rc = (1 + c1.toNat) then ra else ra.map (·.add ((1 + c1.toNat) * 1))) (rn - (1 + c1.toNat)) (rc - (1 + c1.toNat))) (rest.drop (1 + c1.toNat)) := Bs.rest (hrest.mono b1) (by omega)
          refine dr (.slice (if rc = (1 + c1.toNat) then ra else ra.map (·.add ((1 + c1.toNat) * 1))) (rn - (1 + c1.toNat)) (rc - (1 + c1.toNat))) (bD (l := (1 + c1.toNat)) (h := rn) (sz := 1) Tryz.underlying25 rfl (bO _) (.inr ⟨_, rfl, rfl⟩) (.inl ⟨rfl, rfl⟩) (by omega) (by omega) (rfl)) ?_
          refine dy ?_
          refine wlK a8 ?_
          refine aB ?_
          refine cR (i + 1) ?_
          refine aC ?_
          refine aG ?_
          exact a7 _ _ _ (by omega) ⟨(i + 1), (⟨r.name, r.key, ((rest.take (1 + c1.toNat)).drop 1), r.value⟩ : Rq), a0, e0, a1, e1, f7, f8, a3, e3, (if rc = (1 + c1.toNat) then ra else ra.map (·.add ((1 + c1.toNat) * 1))), (rn - (1 + c1.toNat)), (rc - (1 + c1.toNat)), (rest.drop (1 + c1.toNat)), l9, _, rfl, rfl, rfl, m1, (a6.trans b1), (by omega), (hf0.mono b1), (hf1.mono b1), f6, (hf3.mono b1), m2, (by simp only [zZn]; omega), (by subst h4; rw [← hinv]; exact (dD (n := 1) he (vN hc1 (by omega))).symm)⟩
       ·have he : (bJ c0.toNat).testBit i = false := by simpa using he
        have hx := uN he
        have hrn := hrest.len
        have hcap : rest.length ≤ rc := by obtain ⟨_, _, e, q, _⟩ := hrest.shape; injection e with _ _ e; rw [e]; exact q
        refine aB ?_
        refine dx ?_
        refine dr (pP a5 3) (fM (i := i) Tryz.underlying151 (jY _) rfl rfl (by omega) (nK _) (by rw [h4]; rfl)) ?_
        refine aC ?_
        refine wlK a9 ?_
        refine aE fun s1 o5 => ?_
        refine sk fun s2 f9 => ?_
        refine aC ?_
        refine dr (pP 0 (c0.toNat)) (gJ (i := c0.toNat) Tryz.underlying92 (fI _) rfl rfl (by omega)) ?_
        simp only [pq]
        refine dr _ (aD rfl (aQ (bM _) (kM (hh.below a4.gr.below) hk))) ?_
        refine dx ?_
        refine dr (nI ((bJ c0.toNat) / 2 ^ i)) (iO (m := (bJ c0.toNat)) (n := i) rfl rfl (by omega)) ?_
        simp only [pq]
        refine dr (.int .i64 (((((bJ c0.toNat) / 2 ^ i) % 2) : Nat) : Int)) (fN (m := ((bJ c0.toNat) / 2 ^ i)) rfl rfl) ?_
        refine dr bT (dH (m := (((((bJ c0.toNat) / 2 ^ i) % 2) : Nat) : Int)) (n := (0 : Int)) (b := true) rfl rfl (beq_iff_eq.2 (by rw [hx]; rfl))) ?_
        refine wn f9 ?_
        refine aI ?_
        refine cP ?_
        refine a8 _ _ ?_
        refine aB ?_
        refine cR (i + 1) ?_
        refine aC ?_
        refine aG ?_
        exact a7 _ _ _ (by omega) ⟨(i + 1), r, a0, e0, a1, e1, a2, e2, a3, e3, ra, rn, rc, rest, b3, _, rfl, rfl, rfl, a4, a6, (by omega), hf0, hf1, hf2, hf3, hrest, (by omega), (by subst h4; rw [← hinv]; exact (dY (n := 1) he).symm)⟩
      ·by_cases he : (bJ c0.toNat).testBit i = true
       ·have hx := qD he
        have hrn := hrest.len
        have hcap : rest.length ≤ rc := by obtain ⟨_, _, e, q, _⟩ := hrest.shape; injection e with _ _ e; rw [e]; exact q
        refine aB ?_
        refine dx ?_
        refine dr (pP a5 4) (fM (i := i) Tryz.underlying151 (jY _) rfl rfl (by omega) (nK _) (by rw [h4]; rfl)) ?_
        refine aC ?_
        refine wlK a9 ?_
        refine aE fun s3 g0 => ?_
        refine sk fun s4 g1 => ?_
        refine aC ?_
        refine dr (pP 0 (c0.toNat)) (gJ (i := c0.toNat) Tryz.underlying92 (fI _) rfl rfl (by omega)) ?_
        simp only [pq]
        refine dr _ (aD rfl (aQ (bM _) (kM (hh.below a4.gr.below) hk))) ?_
        refine dx ?_
        refine dr (nI ((bJ c0.toNat) / 2 ^ i)) (iO (m := (bJ c0.toNat)) (n := i) rfl rfl (by omega)) ?_
        simp only [pq]
        refine dr (.int .i64 (((((bJ c0.toNat) / 2 ^ i) % 2) : Nat) : Int)) (fN (m := ((bJ c0.toNat) / 2 ^ i)) rfl rfl) ?_
        refine dr bF (dH (m := (((((bJ c0.toNat) / 2 ^ i) % 2) : Nat) : Int)) (n := (0 : Int)) (b := false) rfl rfl (beq_eq_false_iff_ne.2 (by rw [hx]; decide))) ?_
        refine wn g1 ?_
        refine aF ?_
        refine aH ?_
        refine g0 _ _ ?_
        refine aE fun s5 g2 => ?_
        refine aE fun s6 b6 => ?_
        by_cases hz : rest.length = 0
        ·refine aB ?_
         refine aC ?_
         refine iA ?_
         refine aC ?_
         refine wlK b6 ?_
         refine aI ?_
         refine aE fun s7 g3 => ?_
         have hN : oN (bJ c0.toNat) (b.drop 1) = none := by rw [← hinv, show 4 - i = (3 - i) + 1 from by omega]; exact cF he (yT hz)
         have hE : wdE b = 14 := by rw [hwd, hN]
         refine aB ?_
         refine dr (.agg #[(iI 0), Zn, Zn, Zn, Zn]) (aK (hU) (by kernel_rfl)) ?_
         refine sW 1 a4 (bG) fun s8 g4 => ?_
         refine aC ?_
         refine wlK g3 ?_
         refine aO ?_
         try simp only [xt]
         refine bR (dM rfl ⟨_, rfl, lR g4 1 Tryz.underlying27 (bG)⟩ (gD rfl)) ?_
         ·exact ⟨_, _, rfl, g4.gr, iE hE (by decide)⟩
        ·obtain ⟨c1, hc1⟩ : ∃ c, rest[0]? = some c := ⟨rest[0], zZc (by omega)⟩
         have hb9 := UInt8.toNat_lt c1
         obtain ⟨g5, g6, b9, g7⟩ := Bs.get hrest hc1
         refine aB ?_
         refine aC ?_
         refine gH ?_
         refine aC ?_
         refine dr (pP g5 (g6 + 0 * 1)) (bN (i := 0) (sz := 1) Tryz.underlying25 (bO _) rfl b9 rfl (by omega) rfl) ?_
         refine dr _ (aD rfl (aQ (jR _) (St.fz a4 g7))) ?_
         simp only [pq]
         refine dr (nI c1.toNat) (aU (v := (bv c1)) rfl (jF c1 _)) ?_
         refine cR (1 + c1.toNat) ?_
         simp only [pq]
         by_cases c6 : rn < (1 + c1.toNat)
         ·refine eS ?_
          refine dp ?_
          refine wlK b6 ?_
          refine aI ?_
          refine aE fun s9 g8 => ?_
          have hN : oN (bJ c0.toNat) (b.drop 1) = none := by rw [← hinv, show 4 - i = (3 - i) + 1 from by omega]; exact cF he (sO hc1 (by omega))
          have hE : wdE b = 14 := by rw [hwd, hN]
          refine aB ?_
          refine dr (.agg #[(iI 0), Zn, Zn, Zn, Zn]) (aK (hU) (by kernel_rfl)) ?_
          simp only [pq]
          refine sW 1 a4 (bG) fun t0 g9 => ?_
          refine dy ?_
          refine wlK g8 ?_
          refine aO ?_
          try simp only [xt]
          refine bR (dM rfl ⟨_, rfl, lR g9 1 Tryz.underlying27 (bG)⟩ (gD rfl)) ?_
          ·exact ⟨_, _, rfl, g9.gr, iE hE (by decide)⟩
         ·refine eM ?_
          refine aC ?_
          refine wlK b6 ?_
          refine aF ?_
          refine aH ?_
          refine g2 _ _ ?_
          refine sk fun t1 h0 => ?_
          refine dx ?_
          refine dr (pP g5 (g6 + 0 * 1)) (bN (i := 0) (sz := 1) Tryz.underlying25 (bO _) rfl b9 rfl (by omega) rfl) ?_
          refine dr _ (aD rfl (aQ (jR _) (St.fz a4 g7))) ?_
          simp only [pq]
          refine dr (nI c1.toNat) (aU (v := (bv c1)) rfl (jF c1 _)) ?_
          refine cR (1 + c1.toNat) ?_
          refine aC ?_
          refine wn h0 ?_
          refine sk fun t2 h1 => ?_
          refine aC ?_
          have c9 : Bs _ (.slice ra (1 + c1.toNat) rc) (rest.take (1 + c1.toNat)) := eF (Sl.takeN (m := (1 + c1.toNat)) (Bs.sl hrest) (by omega))
          have c9 : Bs _ (.slice (if rc = 1 then ra else ra.map (·.add (1 * 1))) ((1 + c1.toNat) - 1) (rc - 1)) ((rest.take (1 + c1.toNat)).drop 1) := Bs.rest c9 (by omega)
          refine dr (.slice (if rc = 1 then ra else ra.map (·.add (1 * 1))) ((1 + c1.toNat) - 1) (rc - 1)) (bD (l := 1) (h := (1 + c1.toNat)) (sz := 1) Tryz.underlying25 rfl (bO _) (.inr ⟨_, rfl, rfl⟩) (.inr ⟨_, rfl, rfl⟩) (by omega) (by omega) (rfl)) ?_
          refine aR a4 rfl (fn1 (gM _ _)) (dG _ _ _ ((rest.take (1 + c1.toNat)).drop 1) (a4).sat c9 (by simp only [zZn, zZh]; omega)) ?_
          intro t3 t4 m3 m4 b2 h2
          obtain ⟨h3, h5, rfl, _⟩ := h2.shape
          refine di ?_
          refine sW 0 m4 (kX) fun t5 m5 => ?_
          simp only [pq]
          refine wn h1 ?_
          refine aB ?_
          refine aC ?_
          have m6 : Bs _ (.slice (if rc = (1 + c1.toNat) then ra else ra.map (·.add ((1 + c1.toNat) * 1))) (rn - (1 + c1.toNat)) (rc - (1 + c1.toNat))) (rest.drop (1 + c1.toNat)) := Bs.rest (hrest.mono b2) (by omega)
          refine dr (.slice (if rc = (1 + c1.toNat) then ra else ra.map (·.add ((1 + c1.toNat) * 1))) (rn - (1 + c1.toNat)) (rc - (1 + c1.toNat))) (bD (l := (1 + c1.toNat)) (h := rn) (sz := 1) Tryz.underlying25 rfl (bO _) (.inr ⟨_, rfl, rfl⟩) (.inl ⟨rfl, rfl⟩) (by omega) (by omega) (rfl)) ?_
          refine dy ?_
          refine wlK a8 ?_
          refine aB ?_
          refine cR (i + 1) ?_
          refine aC ?_
          refine aG ?_
          exact a7 _ _ _ (by omega) ⟨(i + 1), (⟨r.name, r.key, r.last, ((rest.take (1 + c1.toNat)).drop 1)⟩ : Rq), a0, e0, a1, e1, a2, e2, h3, h5, (if rc = (1 + c1.toNat) then ra else ra.map (·.add ((1 + c1.toNat) * 1))), (rn - (1 + c1.toNat)), (rc - (1 + c1.toNat)), (rest.drop (1 + c1.toNat)), m3, _, rfl, rfl, rfl, m5, (a6.trans b2), (by omega), (hf0.mono b2), (hf1.mono b2), (hf2.mono b2), h2, m6, (by simp only [zZn]; omega), (by subst h4; rw [← hinv]; exact (dD (n := 0) he (vN hc1 (by omega))).symm)⟩
       ·have he : (bJ c0.toNat).testBit i = false := by simpa using he
        have hx := uN he
        have hrn := hrest.len
        have hcap : rest.length ≤ rc := by obtain ⟨_, _, e, q, _⟩ := hrest.shape; injection e with _ _ e; rw [e]; exact q
        refine aB ?_
        refine dx ?_
        refine dr (pP a5 4) (fM (i := i) Tryz.underlying151 (jY _) rfl rfl (by omega) (nK _) (by rw [h4]; rfl)) ?_
        refine aC ?_
        refine wlK a9 ?_
        refine aE fun t6 o6 => ?_
        refine sk fun t7 h6 => ?_
        refine aC ?_
        refine dr (pP 0 (c0.toNat)) (gJ (i := c0.toNat) Tryz.underlying92 (fI _) rfl rfl (by omega)) ?_
        simp only [pq]
        refine dr _ (aD rfl (aQ (bM _) (kM (hh.below a4.gr.below) hk))) ?_
        refine dx ?_
        refine dr (nI ((bJ c0.toNat) / 2 ^ i)) (iO (m := (bJ c0.toNat)) (n := i) rfl rfl (by omega)) ?_
        simp only [pq]
        refine dr (.int .i64 (((((bJ c0.toNat) / 2 ^ i) % 2) : Nat) : Int)) (fN (m := ((bJ c0.toNat) / 2 ^ i)) rfl rfl) ?_
        refine dr bT (dH (m := (((((bJ c0.toNat) / 2 ^ i) % 2) : Nat) : Int)) (n := (0 : Int)) (b := true) rfl rfl (beq_iff_eq.2 (by rw [hx]; rfl))) ?_
        refine wn h6 ?_
        refine aI ?_
        refine cP ?_
        refine a8 _ _ ?_
        refine aB ?_
        refine cR (i + 1) ?_
        refine aC ?_
        refine aG ?_
        exact a7 _ _ _ (by omega) ⟨(i + 1), r, a0, e0, a1, e1, a2, e2, a3, e3, ra, rn, rc, rest, b3, _, rfl, rfl, rfl, a4, a6, (by omega), hf0, hf1, hf2, hf3, hrest, (by omega), (by subst h4; rw [← hinv]; exact (dY (n := 0) he).symm)⟩
     ·refine eM ?_
      refine wn d3 ?_
      refine aE fun t8 o7 => ?_
      refine aF ?_
      refine cP ?_
      refine j5 _ _ ?_
      refine aE fun t9 h7 => ?_
      refine aE fun u0 c2 => ?_
      have hrn := hrest.len
      have hi5 : i = 4 := by omega
      have hD : oN (bJ c0.toNat) (b.drop 1) = some (r, rest) := by rw [← hinv, hi5]; rfl
      rw [hD] at hwd
      have hwd : wdE b = if 0 < rest.length then 4 else vY c0.toNat r.name.length r.key.length r.last.length r.value.length := hwd
      refine aB ?_
      refine aC ?_
      by_cases u1 : 0 < rn
      ·refine qX ?_
       refine wlK c2 ?_
       refine aI ?_
       refine aE fun u2 h8 => ?_
       have hE : wdE b = 4 := by rw [hwd, zZb (by omega)]
       refine aB ?_
       refine dr (.agg #[(iI 0), Zn, Zn, Zn, Zn]) (aK (hU) (by kernel_rfl)) ?_
       refine sW 1 a4 (bG) fun u3 h9 => ?_
       refine aC ?_
       refine wlK h8 ?_
       refine aO ?_
       try simp only [xt]
       refine bR (dM rfl ⟨_, rfl, lR h9 1 Tryz.underlying27 (bG)⟩ (gD rfl)) ?_
       ·exact ⟨_, _, rfl, h9.gr, iE hE (by decide)⟩
      ·refine lS ?_
       refine wlK c2 ?_
       refine aF ?_
       refine aH ?_
       refine h7 _ _ ?_
       refine aE fun u4 i0 => ?_
       refine aE fun u5 i1 => ?_
       rw [zZa (by omega)] at hwd
       refine aB ?_
       refine dR a4 0 Tryz.underlying27 (bG) ?_
       simp only [pq]
       refine aJ (v := (.int .i64 (vY c0.toNat r.name.length r.key.length r.last.length r.value.length))) a4 rfl (fn1 (JW _ _)) (uL _ _ _ c0.toNat r.name r.key r.last r.value (by omega) (by omega) (hh.below a4.gr.below) ⟨_, _, _, _, rfl, hf0, hf1, hf2, hf3⟩) (fun u6 d0 => ?_)
       refine dy ?_
       refine wlK i1 ?_
       refine sk fun u7 c3 => ?_
       refine aC ?_
       by_cases u8 : (vY c0.toNat r.name.length r.key.length r.last.length r.value.length) = (0 : Int)
       ·refine jJ ?_
        refine wn c3 ?_
        refine aF ?_
        refine aH ?_
        refine i0 _ _ ?_
        refine sk fun u9 i2 => ?_
        refine dR d0 0 Tryz.underlying27 (bG) ?_
        refine sW 1 d0 (bG) fun v0 i3 => ?_
        refine aC ?_
        refine wn i2 ?_
        refine aO ?_
        try simp only [xt]
        refine bR (dM rfl ⟨_, rfl, lR i3 1 Tryz.underlying27 (bG)⟩ (gD rfl)) ?_
        ·exact ⟨_, _, rfl, i3.gr, by unfold An; rw [Iz hc0 (hwd.trans (by omega)) hD, hwd.trans (show _ = (0 : Int) by omega)]; exact ⟨_, rfl, _, _, _, _, rfl, hf0, hf1, hf2, hf3⟩⟩
       ·refine mQ ?_
        refine wn c3 ?_
        refine aI ?_
        refine sk fun v1 i4 => ?_
        refine dr (.agg #[(iI 0), Zn, Zn, Zn, Zn]) (aK (hU) (by kernel_rfl)) ?_
        refine aC ?_
        refine sW 1 d0 (bG) fun v2 i5 => ?_
        refine dy ?_
        refine wn i4 ?_
        refine aO ?_
        try simp only [xt]
        refine bR (dM rfl ⟨_, rfl, lR i5 1 Tryz.underlying27 (bG)⟩ (gD rfl)) ?_
        ·exact ⟨_, _, rfl, i5.gr, iE hwd (by omega)⟩
theorem FB (F : Fz) (w : World) (v : Value) (b : By) {e : Int} {k : Nat} {r : Rq} (hs : Sat w F) (hh : Has w) (hb : Bs F v b) (he : wdE b = e) (hr : wdR b = (k, r)) :
    Calls Tryz.prog 77 #[v] w (dF w F fun F' u => ∃ x, u = .tuple #[x, .int .i64 e] ∧ BG F' x ((k : Nat) : Int) r.name r.key r.last r.value) := by
 have := BI F w v b hs hh hb
 unfold An at this
 rw [he, hr] at this
 exact this
end Go.Proofs.YtilgpdpooildcaaGreatDoor
