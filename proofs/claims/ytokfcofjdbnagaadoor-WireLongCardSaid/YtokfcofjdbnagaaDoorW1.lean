/- Walks: forest.Name, canopykeep.name, wire.Check -/
import Derived.Test.YtokfcofjdbnagaaDoorB
import Derived.Test.YtokfcofjdbnagaaDoorG
namespace Go.Proofs.YtokfcofjdbnagaaDoor
open Go.RowKit
set_option maxRecDepth 100000
set_option linter.unusedVariables false
theorem retInt {k : IntKind} {a b : Int} (h : a = b) : Ending.returned (.int k a) = .returned (.int k b) := by rw [h]
def nameN (n : Nat) : Int := if 1 ≤ n ∧ n ≤ 8 then 0 else 1
theorem nameN_ok {n : Nat} (h1 : 1 ≤ n) (h2 : n ≤ 8) : nameN n = 0 := by unfold nameN; rw [if_pos ⟨h1, h2⟩]
theorem nameN_bad {n : Nat} (h : ¬ (1 ≤ n ∧ n ≤ 8)) : nameN n = 1 := by unfold nameN; rw [if_neg h]
set_option maxHeartbeats 400000 in
theorem name_len (w : World) (a : Option Addr) (n c : Nat) :
    Calls Tryd.prog 39 #[.slice a n c] w fun e w' => e = .returned (.int .i64 (nameN n)) ∧ w' = w := by
  by_cases h : 1 ≤ n ∧ n ≤ 8
  · rw [nameN_ok h.1 h.2]
    obtain ⟨h1, h2⟩ := h
    go_enter Tryd.func39, Tryd.ntmps39
    go_wp2
    go_ret
    exact ⟨rfl, rfl⟩
  · rw [nameN_bad h]
    by_cases h1 : n < 1
    · clear h
      go_enter Tryd.func39, Tryd.ntmps39
      go_wp2
      go_ret
      exact ⟨rfl, rfl⟩
    · have h2 : 8 < n := by omega
      clear h
      go_enter Tryd.func39, Tryd.ntmps39
      go_wp2
      go_ret
      exact ⟨rfl, rfl⟩
def nameL (l : List UInt8) : List UInt8 := if l = [] then [0] else l.take 8
theorem nameL_len (l : List UInt8) : 1 ≤ (nameL l).length ∧ (nameL l).length ≤ 8 := by
  unfold nameL
  split
  · simp
  · rename_i h
    have := List.length_pos_iff.2 h
    simp only [List.length_take]
    omega
set_option maxHeartbeats 400000 in
theorem name_spec (F : Fz) (w : World) (v : Value) (l : List UInt8) (hs : Sat w F) (hv : Bs F v l) :
    Calls Tryd.prog 38 #[v] w (Gives w F fun F' u => Bs F' u (nameL l)) := by
  obtain ⟨a, c, rfl, hlc, hcm⟩ := hv.shape
  by_cases h : l = []
  · subst h
    go_enter Tryd.func38, Tryd.ntmps38
    go_wp2_with fail
    go_ret
    have hown := World.ownsRow_lit (base := w.heap.size) (e := 5) (size := 1) w #[.int .u8 0] 1 (Nat.le_refl _) (by unfold maxLen; omega) rfl
    obtain ⟨F', h1, h2⟩ := Gr.row hs ((Below.refl _ _).alloc (Nat.le_refl _) _) hown
    exact ⟨_, F', rfl, h1, h2⟩
  · have hb : ((l.length : Int) == 0) = false := by
      have := List.length_pos_iff.2 h
      rw [beq_eq_false_iff_ne]; omega
    have hk : nameL l = l.take 8 := by unfold nameL; rw [if_neg h]
    rw [hk]
    clear hk
    go_enter Tryd.func38, Tryd.ntmps38
    go_wp2_with (go_at_call 21; refine (some_spec _ _ _ _ _ hs hv (by omega) (by omega)).mono ?_; rintro e w1 ⟨v1, F1, rfl, g1, r1⟩)
    go_ret
    exact ⟨_, F1, rfl, g1, r1⟩
/-- The table of what a kind has. -/
def hasL : List Int := [0, 0, 3, 7, 11, 3, 0, 0, 3]
def Has (w : World) : Prop := ∀ i (hi : i < hasL.length), w.cell? ⟨0, i, none⟩ = some (.int .i64 hasL[i])
/-- What wire.Check tells, by the lengths of the parts; h: what the kind has. -/
def partsN (h : Nat) (n y l v : Nat) : Int :=
  if h.testBit 0 ∧ ¬ (1 ≤ n ∧ n ≤ 8) then 1 else if h.testBit 0 ∧ ¬ (1 ≤ y ∧ y ≤ 16) then 1 else if h.testBit 2 ∧ ¬ (1 ≤ l ∧ l ≤ 16) then 1 else if 32 < v then 1
  else if (¬ h.testBit 0 ∧ 0 < n) ∨ (¬ h.testBit 1 ∧ 0 < y) ∨ (¬ h.testBit 2 ∧ 0 < l) ∨ (¬ h.testBit 3 ∧ 0 < v) then 4 else 0
set_option maxHeartbeats 8000000 in
theorem wireCheck_0 (w : World) (k : Nat) (k1 : 1 ≤ k) (k8 : k ≤ 8) (hg : 0 < w.heap.size) (hc : w.cell? ⟨0, k, none⟩ = some (.int .i64 0))
    (a0 a1 a2 a3 : Option Addr) (n y l v c0 c1 c2 c3 : Nat) (bn : n ≤ 9223372036854775807) (by' : y ≤ 9223372036854775807) (bl : l ≤ 9223372036854775807) (bv' : v ≤ 9223372036854775807) (hyc : y ≤ c1) (hyc' : c1 ≤ maxLen) (hlc : l ≤ c2) (hlc' : c2 ≤ maxLen) :
    Calls Tryd.prog 16 #[.agg #[.int .i64 k, .slice a0 n c0, .slice a1 y c1, .slice a2 l c2, .slice a3 v c3]] w (Tells w (.int .i64 (partsN 0 n y l v))) := by
  have HA : Hid (partsN 0 n y l v = if 32 < v then 1 else if 0 < n ∨ 0 < y ∨ 0 < l ∨ 0 < v then 4 else 0) := by
    unfold Hid partsN
    rw [show (0 : Nat).testBit 0 = false from rfl, show (0 : Nat).testBit 1 = false from rfl, show (0 : Nat).testBit 2 = false from rfl, show (0 : Nat).testBit 3 = false from rfl]
    simp
  generalize partsN 0 n y l v = r at *
  have ix0 : ∀ (X : World) (n' y' l' v' : Nat), (Instr.index 86 (.agg #[.slice a0 n' c0, .slice a1 y' c1, .slice a2 l' c2, .slice a3 v' c3]) (.int .i64 0)).run Tryd.prog X = .ok (.slice a0 n' c0) X := fun _ _ _ _ _ => by kernel_rfl
  have ix1 : ∀ (X : World) (n' y' l' v' : Nat), (Instr.index 86 (.agg #[.slice a0 n' c0, .slice a1 y' c1, .slice a2 l' c2, .slice a3 v' c3]) (.int .i64 1)).run Tryd.prog X = .ok (.slice a1 y' c1) X := fun _ _ _ _ _ => by kernel_rfl
  have ix2 : ∀ (X : World) (n' y' l' v' : Nat), (Instr.index 86 (.agg #[.slice a0 n' c0, .slice a1 y' c1, .slice a2 l' c2, .slice a3 v' c3]) (.int .i64 2)).run Tryd.prog X = .ok (.slice a2 l' c2) X := fun _ _ _ _ _ => by kernel_rfl
  have ix3 : ∀ (X : World) (n' y' l' v' : Nat), (Instr.index 86 (.agg #[.slice a0 n' c0, .slice a1 y' c1, .slice a2 l' c2, .slice a3 v' c3]) (.int .i64 3)).run Tryd.prog X = .ok (.slice a3 v' c3) X := fun _ _ _ _ _ => by kernel_rfl
  go_enter Tryd.func16, Tryd.ntmps16
  go_wp2_with fail
  · go_ret
    exact ⟨retInt (Eq.symm (HA.out.trans (by first | rw [if_pos (by omega)] | rw [if_neg (by omega), if_pos (by omega)] | rw [if_neg (by omega), if_neg (by omega)]))), (Below.refl _ _).alloc (Nat.le_refl _) _⟩
  · go_loop [58] (fun t => ∃ i : Nat, i ≤ 4 ∧ t = .int .i64 i ∧ (0 < i → n = 0) ∧ (1 < i → y = 0) ∧ (2 < i → l = 0) ∧ (3 < i → v = 0)) (fun t => 4 - (intOf t).toNat)
    case atStart => exact ⟨0, by omega, rfl, by omega⟩
    case round =>
      obtain ⟨i, hi, rfl, hok⟩ := hrel
      have HOK := hid hok
      clear hok
      rcases (by omega : i = 0 ∨ i = 1 ∨ i = 2 ∨ i = 3 ∨ i = 4) with rfl | rfl | rfl | rfl | rfl
      all_goals
        go_wp2_with fail
      all_goals first
        | exact ⟨⟨1, by omega, rfl, (by have h := HOK.out; omega)⟩, by simp [intOf]⟩
        | exact ⟨⟨_, _, _, _, ⟨1, by omega, rfl, (by have h := HOK.out; omega)⟩, rfl, rfl, rfl, rfl⟩, by simp [intOf]⟩
        | exact ⟨⟨2, by omega, rfl, (by have h := HOK.out; omega)⟩, by simp [intOf]⟩
        | exact ⟨⟨_, _, _, _, ⟨2, by omega, rfl, (by have h := HOK.out; omega)⟩, rfl, rfl, rfl, rfl⟩, by simp [intOf]⟩
        | exact ⟨⟨3, by omega, rfl, (by have h := HOK.out; omega)⟩, by simp [intOf]⟩
        | exact ⟨⟨_, _, _, _, ⟨3, by omega, rfl, (by have h := HOK.out; omega)⟩, rfl, rfl, rfl, rfl⟩, by simp [intOf]⟩
        | exact ⟨⟨4, by omega, rfl, (by have h := HOK.out; omega)⟩, by simp [intOf]⟩
        | exact ⟨⟨_, _, _, _, ⟨4, by omega, rfl, (by have h := HOK.out; omega)⟩, rfl, rfl, rfl, rfl⟩, by simp [intOf]⟩
        | (go_ret; have h := HOK.out; exact ⟨retInt (Eq.symm (HA.out.trans (by first | rw [if_pos (by omega)] | rw [if_neg (by omega), if_pos (by omega)] | rw [if_neg (by omega), if_neg (by omega)]))), (Below.refl _ _).alloc (Nat.le_refl _) _⟩)
set_option maxHeartbeats 8000000 in
theorem wireCheck_3 (w : World) (k : Nat) (k1 : 1 ≤ k) (k8 : k ≤ 8) (hg : 0 < w.heap.size) (hc : w.cell? ⟨0, k, none⟩ = some (.int .i64 3))
    (a0 a1 a2 a3 : Option Addr) (n y l v c0 c1 c2 c3 : Nat) (bn : n ≤ 9223372036854775807) (by' : y ≤ 9223372036854775807) (bl : l ≤ 9223372036854775807) (bv' : v ≤ 9223372036854775807) (hyc : y ≤ c1) (hyc' : c1 ≤ maxLen) (hlc : l ≤ c2) (hlc' : c2 ≤ maxLen) :
    Calls Tryd.prog 16 #[.agg #[.int .i64 k, .slice a0 n c0, .slice a1 y c1, .slice a2 l c2, .slice a3 v c3]] w (Tells w (.int .i64 (partsN 3 n y l v))) := by
  have HA : Hid (partsN 3 n y l v = if ¬ (1 ≤ n ∧ n ≤ 8) then 1 else if ¬ (1 ≤ y ∧ y ≤ 16) then 1 else if 32 < v then 1 else if 0 < l ∨ 0 < v then 4 else 0) := by
    unfold Hid partsN
    rw [show (3 : Nat).testBit 0 = true from rfl, show (3 : Nat).testBit 1 = true from rfl, show (3 : Nat).testBit 2 = false from rfl, show (3 : Nat).testBit 3 = false from rfl]
    simp
  generalize partsN 3 n y l v = r at *
  have ix0 : ∀ (X : World) (n' y' l' v' : Nat), (Instr.index 86 (.agg #[.slice a0 n' c0, .slice a1 y' c1, .slice a2 l' c2, .slice a3 v' c3]) (.int .i64 0)).run Tryd.prog X = .ok (.slice a0 n' c0) X := fun _ _ _ _ _ => by kernel_rfl
  have ix1 : ∀ (X : World) (n' y' l' v' : Nat), (Instr.index 86 (.agg #[.slice a0 n' c0, .slice a1 y' c1, .slice a2 l' c2, .slice a3 v' c3]) (.int .i64 1)).run Tryd.prog X = .ok (.slice a1 y' c1) X := fun _ _ _ _ _ => by kernel_rfl
  have ix2 : ∀ (X : World) (n' y' l' v' : Nat), (Instr.index 86 (.agg #[.slice a0 n' c0, .slice a1 y' c1, .slice a2 l' c2, .slice a3 v' c3]) (.int .i64 2)).run Tryd.prog X = .ok (.slice a2 l' c2) X := fun _ _ _ _ _ => by kernel_rfl
  have ix3 : ∀ (X : World) (n' y' l' v' : Nat), (Instr.index 86 (.agg #[.slice a0 n' c0, .slice a1 y' c1, .slice a2 l' c2, .slice a3 v' c3]) (.int .i64 3)).run Tryd.prog X = .ok (.slice a3 v' c3) X := fun _ _ _ _ _ => by kernel_rfl
  by_cases q0 : 1 ≤ n ∧ n ≤ 8
  case neg =>
    have h0 := hid (nameN_bad q0)
    go_enter Tryd.func16, Tryd.ntmps16
    go_wp2_with (go_at_call 39; refine (name_len _ _ _ _).mono ?_; rw [h0.out]; rintro e w' ⟨rfl, rfl⟩)
    go_ret
    exact ⟨retInt (Eq.symm (HA.out.trans (by first | rw [if_pos (by omega)] | rw [if_neg (by omega), if_pos (by omega)] | rw [if_neg (by omega), if_neg (by omega), if_pos (by omega)] | rw [if_neg (by omega), if_neg (by omega), if_neg (by omega), if_pos (by omega)] | rw [if_neg (by omega), if_neg (by omega), if_neg (by omega), if_neg (by omega)]))), (Below.refl _ _).alloc (Nat.le_refl _) _⟩
  by_cases q1 : 1 ≤ y ∧ y ≤ 16
  case neg =>
    have h0 := hid (nameN_ok q0.1 q0.2)
    have h1 := hid (checkN_bad q1)
    go_enter Tryd.func16, Tryd.ntmps16
    go_wp2_with (first | (go_at_call 39; refine (name_len _ _ _ _).mono ?_; rw [h0.out]; rintro e w' ⟨rfl, rfl⟩) | (go_at_call 40; refine (check_len _ _ _ _ hyc hyc').mono ?_; rw [h1.out]; rintro e w' ⟨rfl, rfl⟩))
    go_ret
    exact ⟨retInt (Eq.symm (HA.out.trans (by first | rw [if_pos (by omega)] | rw [if_neg (by omega), if_pos (by omega)] | rw [if_neg (by omega), if_neg (by omega), if_pos (by omega)] | rw [if_neg (by omega), if_neg (by omega), if_neg (by omega), if_pos (by omega)] | rw [if_neg (by omega), if_neg (by omega), if_neg (by omega), if_neg (by omega)]))), (Below.refl _ _).alloc (Nat.le_refl _) _⟩
  have h0 := hid (nameN_ok q0.1 q0.2)
  have h1 := hid (checkN_ok q1.1 q1.2)
  go_enter Tryd.func16, Tryd.ntmps16
  go_wp2_with fail
  refine (name_len _ _ _ _).mono ?_; rw [h0.out]; rintro e w' ⟨rfl, rfl⟩
  go_wp2_with fail
  refine (check_len _ _ _ _ hyc hyc').mono ?_; rw [h1.out]; rintro e w' ⟨rfl, rfl⟩
  go_wp2_with fail
  · go_ret
    exact ⟨retInt (Eq.symm (HA.out.trans (by first | rw [if_pos (by omega)] | rw [if_neg (by omega), if_pos (by omega)] | rw [if_neg (by omega), if_neg (by omega), if_pos (by omega)] | rw [if_neg (by omega), if_neg (by omega), if_neg (by omega), if_pos (by omega)] | rw [if_neg (by omega), if_neg (by omega), if_neg (by omega), if_neg (by omega)]))), (Below.refl _ _).alloc (Nat.le_refl _) _⟩
  · go_loop [58] (fun t => ∃ i : Nat, i ≤ 4 ∧ t = .int .i64 i ∧ (2 < i → l = 0) ∧ (3 < i → v = 0)) (fun t => 4 - (intOf t).toNat)
    case atStart => exact ⟨0, by omega, rfl, by omega⟩
    case round =>
      obtain ⟨i, hi, rfl, hok⟩ := hrel
      have HOK := hid hok
      clear hok
      rcases (by omega : i = 0 ∨ i = 1 ∨ i = 2 ∨ i = 3 ∨ i = 4) with rfl | rfl | rfl | rfl | rfl
      all_goals
        go_wp2_with fail
      all_goals first
        | exact ⟨⟨1, by omega, rfl, (by have h := HOK.out; omega)⟩, by simp [intOf]⟩
        | exact ⟨⟨_, _, _, _, ⟨1, by omega, rfl, (by have h := HOK.out; omega)⟩, rfl, rfl, rfl, rfl⟩, by simp [intOf]⟩
        | exact ⟨⟨2, by omega, rfl, (by have h := HOK.out; omega)⟩, by simp [intOf]⟩
        | exact ⟨⟨_, _, _, _, ⟨2, by omega, rfl, (by have h := HOK.out; omega)⟩, rfl, rfl, rfl, rfl⟩, by simp [intOf]⟩
        | exact ⟨⟨3, by omega, rfl, (by have h := HOK.out; omega)⟩, by simp [intOf]⟩
        | exact ⟨⟨_, _, _, _, ⟨3, by omega, rfl, (by have h := HOK.out; omega)⟩, rfl, rfl, rfl, rfl⟩, by simp [intOf]⟩
        | exact ⟨⟨4, by omega, rfl, (by have h := HOK.out; omega)⟩, by simp [intOf]⟩
        | exact ⟨⟨_, _, _, _, ⟨4, by omega, rfl, (by have h := HOK.out; omega)⟩, rfl, rfl, rfl, rfl⟩, by simp [intOf]⟩
        | (go_ret; have h := HOK.out; exact ⟨retInt (Eq.symm (HA.out.trans (by first | rw [if_pos (by omega)] | rw [if_neg (by omega), if_pos (by omega)] | rw [if_neg (by omega), if_neg (by omega), if_pos (by omega)] | rw [if_neg (by omega), if_neg (by omega), if_neg (by omega), if_pos (by omega)] | rw [if_neg (by omega), if_neg (by omega), if_neg (by omega), if_neg (by omega)]))), (Below.refl _ _).alloc (Nat.le_refl _) _⟩)
set_option maxHeartbeats 8000000 in
theorem wireCheck_7 (w : World) (k : Nat) (k1 : 1 ≤ k) (k8 : k ≤ 8) (hg : 0 < w.heap.size) (hc : w.cell? ⟨0, k, none⟩ = some (.int .i64 7))
    (a0 a1 a2 a3 : Option Addr) (n y l v c0 c1 c2 c3 : Nat) (bn : n ≤ 9223372036854775807) (by' : y ≤ 9223372036854775807) (bl : l ≤ 9223372036854775807) (bv' : v ≤ 9223372036854775807) (hyc : y ≤ c1) (hyc' : c1 ≤ maxLen) (hlc : l ≤ c2) (hlc' : c2 ≤ maxLen) :
    Calls Tryd.prog 16 #[.agg #[.int .i64 k, .slice a0 n c0, .slice a1 y c1, .slice a2 l c2, .slice a3 v c3]] w (Tells w (.int .i64 (partsN 7 n y l v))) := by
  have HA : Hid (partsN 7 n y l v = if ¬ (1 ≤ n ∧ n ≤ 8) then 1 else if ¬ (1 ≤ y ∧ y ≤ 16) then 1 else if ¬ (1 ≤ l ∧ l ≤ 16) then 1 else if 32 < v then 1 else if 0 < v then 4 else 0) := by
    unfold Hid partsN
    rw [show (7 : Nat).testBit 0 = true from rfl, show (7 : Nat).testBit 1 = true from rfl, show (7 : Nat).testBit 2 = true from rfl, show (7 : Nat).testBit 3 = false from rfl]
    simp
  generalize partsN 7 n y l v = r at *
  have ix0 : ∀ (X : World) (n' y' l' v' : Nat), (Instr.index 86 (.agg #[.slice a0 n' c0, .slice a1 y' c1, .slice a2 l' c2, .slice a3 v' c3]) (.int .i64 0)).run Tryd.prog X = .ok (.slice a0 n' c0) X := fun _ _ _ _ _ => by kernel_rfl
  have ix1 : ∀ (X : World) (n' y' l' v' : Nat), (Instr.index 86 (.agg #[.slice a0 n' c0, .slice a1 y' c1, .slice a2 l' c2, .slice a3 v' c3]) (.int .i64 1)).run Tryd.prog X = .ok (.slice a1 y' c1) X := fun _ _ _ _ _ => by kernel_rfl
  have ix2 : ∀ (X : World) (n' y' l' v' : Nat), (Instr.index 86 (.agg #[.slice a0 n' c0, .slice a1 y' c1, .slice a2 l' c2, .slice a3 v' c3]) (.int .i64 2)).run Tryd.prog X = .ok (.slice a2 l' c2) X := fun _ _ _ _ _ => by kernel_rfl
  have ix3 : ∀ (X : World) (n' y' l' v' : Nat), (Instr.index 86 (.agg #[.slice a0 n' c0, .slice a1 y' c1, .slice a2 l' c2, .slice a3 v' c3]) (.int .i64 3)).run Tryd.prog X = .ok (.slice a3 v' c3) X := fun _ _ _ _ _ => by kernel_rfl
  by_cases q0 : 1 ≤ n ∧ n ≤ 8
  case neg =>
    have h0 := hid (nameN_bad q0)
    go_enter Tryd.func16, Tryd.ntmps16
    go_wp2_with (go_at_call 39; refine (name_len _ _ _ _).mono ?_; rw [h0.out]; rintro e w' ⟨rfl, rfl⟩)
    go_ret
    exact ⟨retInt (Eq.symm (HA.out.trans (by first | rw [if_pos (by omega)] | rw [if_neg (by omega), if_pos (by omega)] | rw [if_neg (by omega), if_neg (by omega), if_pos (by omega)] | rw [if_neg (by omega), if_neg (by omega), if_neg (by omega), if_pos (by omega)] | rw [if_neg (by omega), if_neg (by omega), if_neg (by omega), if_neg (by omega), if_pos (by omega)] | rw [if_neg (by omega), if_neg (by omega), if_neg (by omega), if_neg (by omega), if_neg (by omega)]))), (Below.refl _ _).alloc (Nat.le_refl _) _⟩
  by_cases q1 : 1 ≤ y ∧ y ≤ 16
  case neg =>
    have h0 := hid (nameN_ok q0.1 q0.2)
    have h1 := hid (checkN_bad q1)
    go_enter Tryd.func16, Tryd.ntmps16
    go_wp2_with (first | (go_at_call 39; refine (name_len _ _ _ _).mono ?_; rw [h0.out]; rintro e w' ⟨rfl, rfl⟩) | (go_at_call 40; refine (check_len _ _ _ _ hyc hyc').mono ?_; rw [h1.out]; rintro e w' ⟨rfl, rfl⟩))
    go_ret
    exact ⟨retInt (Eq.symm (HA.out.trans (by first | rw [if_pos (by omega)] | rw [if_neg (by omega), if_pos (by omega)] | rw [if_neg (by omega), if_neg (by omega), if_pos (by omega)] | rw [if_neg (by omega), if_neg (by omega), if_neg (by omega), if_pos (by omega)] | rw [if_neg (by omega), if_neg (by omega), if_neg (by omega), if_neg (by omega), if_pos (by omega)] | rw [if_neg (by omega), if_neg (by omega), if_neg (by omega), if_neg (by omega), if_neg (by omega)]))), (Below.refl _ _).alloc (Nat.le_refl _) _⟩
  have h0 := hid (nameN_ok q0.1 q0.2)
  have h1 := hid (checkN_ok q1.1 q1.2)
  by_cases q2 : 1 ≤ l ∧ l ≤ 16
  case neg =>
    have h2 := hid (checkN_bad q2)
    go_enter Tryd.func16, Tryd.ntmps16
    go_wp2_with fail
    refine (name_len _ _ _ _).mono ?_; rw [h0.out]; rintro e w' ⟨rfl, rfl⟩
    go_wp2_with fail
    refine (check_len _ _ _ _ hyc hyc').mono ?_; rw [h1.out]; rintro e w' ⟨rfl, rfl⟩
    go_wp2_with fail
    refine (check_len _ _ _ _ hlc hlc').mono ?_; rw [h2.out]; rintro e w' ⟨rfl, rfl⟩
    go_wp2_with fail
    go_ret
    exact ⟨retInt (Eq.symm (HA.out.trans (by first | rw [if_pos (by omega)] | rw [if_neg (by omega), if_pos (by omega)] | rw [if_neg (by omega), if_neg (by omega), if_pos (by omega)] | rw [if_neg (by omega), if_neg (by omega), if_neg (by omega), if_pos (by omega)] | rw [if_neg (by omega), if_neg (by omega), if_neg (by omega), if_neg (by omega), if_pos (by omega)] | rw [if_neg (by omega), if_neg (by omega), if_neg (by omega), if_neg (by omega), if_neg (by omega)]))), (Below.refl _ _).alloc (Nat.le_refl _) _⟩
  have h2 := hid (checkN_ok q2.1 q2.2)
  go_enter Tryd.func16, Tryd.ntmps16
  go_wp2_with fail
  refine (name_len _ _ _ _).mono ?_; rw [h0.out]; rintro e w' ⟨rfl, rfl⟩
  go_wp2_with fail
  refine (check_len _ _ _ _ hyc hyc').mono ?_; rw [h1.out]; rintro e w' ⟨rfl, rfl⟩
  go_wp2_with fail
  refine (check_len _ _ _ _ hlc hlc').mono ?_; rw [h2.out]; rintro e w' ⟨rfl, rfl⟩
  go_wp2_with fail
  · go_ret
    exact ⟨retInt (Eq.symm (HA.out.trans (by first | rw [if_pos (by omega)] | rw [if_neg (by omega), if_pos (by omega)] | rw [if_neg (by omega), if_neg (by omega), if_pos (by omega)] | rw [if_neg (by omega), if_neg (by omega), if_neg (by omega), if_pos (by omega)] | rw [if_neg (by omega), if_neg (by omega), if_neg (by omega), if_neg (by omega), if_pos (by omega)] | rw [if_neg (by omega), if_neg (by omega), if_neg (by omega), if_neg (by omega), if_neg (by omega)]))), (Below.refl _ _).alloc (Nat.le_refl _) _⟩
  · go_loop [58] (fun t => ∃ i : Nat, i ≤ 4 ∧ t = .int .i64 i ∧ (3 < i → v = 0)) (fun t => 4 - (intOf t).toNat)
    case atStart => exact ⟨0, by omega, rfl, by omega⟩
    case round =>
      obtain ⟨i, hi, rfl, hok⟩ := hrel
      have HOK := hid hok
      clear hok
      rcases (by omega : i = 0 ∨ i = 1 ∨ i = 2 ∨ i = 3 ∨ i = 4) with rfl | rfl | rfl | rfl | rfl
      all_goals
        go_wp2_with fail
      all_goals first
        | exact ⟨⟨1, by omega, rfl, (by have h := HOK.out; omega)⟩, by simp [intOf]⟩
        | exact ⟨⟨_, _, _, _, ⟨1, by omega, rfl, (by have h := HOK.out; omega)⟩, rfl, rfl, rfl, rfl⟩, by simp [intOf]⟩
        | exact ⟨⟨2, by omega, rfl, (by have h := HOK.out; omega)⟩, by simp [intOf]⟩
        | exact ⟨⟨_, _, _, _, ⟨2, by omega, rfl, (by have h := HOK.out; omega)⟩, rfl, rfl, rfl, rfl⟩, by simp [intOf]⟩
        | exact ⟨⟨3, by omega, rfl, (by have h := HOK.out; omega)⟩, by simp [intOf]⟩
        | exact ⟨⟨_, _, _, _, ⟨3, by omega, rfl, (by have h := HOK.out; omega)⟩, rfl, rfl, rfl, rfl⟩, by simp [intOf]⟩
        | exact ⟨⟨4, by omega, rfl, (by have h := HOK.out; omega)⟩, by simp [intOf]⟩
        | exact ⟨⟨_, _, _, _, ⟨4, by omega, rfl, (by have h := HOK.out; omega)⟩, rfl, rfl, rfl, rfl⟩, by simp [intOf]⟩
        | (go_ret; have h := HOK.out; exact ⟨retInt (Eq.symm (HA.out.trans (by first | rw [if_pos (by omega)] | rw [if_neg (by omega), if_pos (by omega)] | rw [if_neg (by omega), if_neg (by omega), if_pos (by omega)] | rw [if_neg (by omega), if_neg (by omega), if_neg (by omega), if_pos (by omega)] | rw [if_neg (by omega), if_neg (by omega), if_neg (by omega), if_neg (by omega), if_pos (by omega)] | rw [if_neg (by omega), if_neg (by omega), if_neg (by omega), if_neg (by omega), if_neg (by omega)]))), (Below.refl _ _).alloc (Nat.le_refl _) _⟩)
set_option maxHeartbeats 8000000 in
theorem wireCheck_11 (w : World) (k : Nat) (k1 : 1 ≤ k) (k8 : k ≤ 8) (hg : 0 < w.heap.size) (hc : w.cell? ⟨0, k, none⟩ = some (.int .i64 11))
    (a0 a1 a2 a3 : Option Addr) (n y l v c0 c1 c2 c3 : Nat) (bn : n ≤ 9223372036854775807) (by' : y ≤ 9223372036854775807) (bl : l ≤ 9223372036854775807) (bv' : v ≤ 9223372036854775807) (hyc : y ≤ c1) (hyc' : c1 ≤ maxLen) (hlc : l ≤ c2) (hlc' : c2 ≤ maxLen) :
    Calls Tryd.prog 16 #[.agg #[.int .i64 k, .slice a0 n c0, .slice a1 y c1, .slice a2 l c2, .slice a3 v c3]] w (Tells w (.int .i64 (partsN 11 n y l v))) := by
  have HA : Hid (partsN 11 n y l v = if ¬ (1 ≤ n ∧ n ≤ 8) then 1 else if ¬ (1 ≤ y ∧ y ≤ 16) then 1 else if 32 < v then 1 else if 0 < l then 4 else 0) := by
    unfold Hid partsN
    rw [show (11 : Nat).testBit 0 = true from rfl, show (11 : Nat).testBit 1 = true from rfl, show (11 : Nat).testBit 2 = false from rfl, show (11 : Nat).testBit 3 = true from rfl]
    simp
  generalize partsN 11 n y l v = r at *
  have ix0 : ∀ (X : World) (n' y' l' v' : Nat), (Instr.index 86 (.agg #[.slice a0 n' c0, .slice a1 y' c1, .slice a2 l' c2, .slice a3 v' c3]) (.int .i64 0)).run Tryd.prog X = .ok (.slice a0 n' c0) X := fun _ _ _ _ _ => by kernel_rfl
  have ix1 : ∀ (X : World) (n' y' l' v' : Nat), (Instr.index 86 (.agg #[.slice a0 n' c0, .slice a1 y' c1, .slice a2 l' c2, .slice a3 v' c3]) (.int .i64 1)).run Tryd.prog X = .ok (.slice a1 y' c1) X := fun _ _ _ _ _ => by kernel_rfl
  have ix2 : ∀ (X : World) (n' y' l' v' : Nat), (Instr.index 86 (.agg #[.slice a0 n' c0, .slice a1 y' c1, .slice a2 l' c2, .slice a3 v' c3]) (.int .i64 2)).run Tryd.prog X = .ok (.slice a2 l' c2) X := fun _ _ _ _ _ => by kernel_rfl
  have ix3 : ∀ (X : World) (n' y' l' v' : Nat), (Instr.index 86 (.agg #[.slice a0 n' c0, .slice a1 y' c1, .slice a2 l' c2, .slice a3 v' c3]) (.int .i64 3)).run Tryd.prog X = .ok (.slice a3 v' c3) X := fun _ _ _ _ _ => by kernel_rfl
  by_cases q0 : 1 ≤ n ∧ n ≤ 8
  case neg =>
    have h0 := hid (nameN_bad q0)
    go_enter Tryd.func16, Tryd.ntmps16
    go_wp2_with (go_at_call 39; refine (name_len _ _ _ _).mono ?_; rw [h0.out]; rintro e w' ⟨rfl, rfl⟩)
    go_ret
    exact ⟨retInt (Eq.symm (HA.out.trans (by first | rw [if_pos (by omega)] | rw [if_neg (by omega), if_pos (by omega)] | rw [if_neg (by omega), if_neg (by omega), if_pos (by omega)] | rw [if_neg (by omega), if_neg (by omega), if_neg (by omega), if_pos (by omega)] | rw [if_neg (by omega), if_neg (by omega), if_neg (by omega), if_neg (by omega)]))), (Below.refl _ _).alloc (Nat.le_refl _) _⟩
  by_cases q1 : 1 ≤ y ∧ y ≤ 16
  case neg =>
    have h0 := hid (nameN_ok q0.1 q0.2)
    have h1 := hid (checkN_bad q1)
    go_enter Tryd.func16, Tryd.ntmps16
    go_wp2_with (first | (go_at_call 39; refine (name_len _ _ _ _).mono ?_; rw [h0.out]; rintro e w' ⟨rfl, rfl⟩) | (go_at_call 40; refine (check_len _ _ _ _ hyc hyc').mono ?_; rw [h1.out]; rintro e w' ⟨rfl, rfl⟩))
    go_ret
    exact ⟨retInt (Eq.symm (HA.out.trans (by first | rw [if_pos (by omega)] | rw [if_neg (by omega), if_pos (by omega)] | rw [if_neg (by omega), if_neg (by omega), if_pos (by omega)] | rw [if_neg (by omega), if_neg (by omega), if_neg (by omega), if_pos (by omega)] | rw [if_neg (by omega), if_neg (by omega), if_neg (by omega), if_neg (by omega)]))), (Below.refl _ _).alloc (Nat.le_refl _) _⟩
  have h0 := hid (nameN_ok q0.1 q0.2)
  have h1 := hid (checkN_ok q1.1 q1.2)
  go_enter Tryd.func16, Tryd.ntmps16
  go_wp2_with fail
  refine (name_len _ _ _ _).mono ?_; rw [h0.out]; rintro e w' ⟨rfl, rfl⟩
  go_wp2_with fail
  refine (check_len _ _ _ _ hyc hyc').mono ?_; rw [h1.out]; rintro e w' ⟨rfl, rfl⟩
  go_wp2_with fail
  · go_ret
    exact ⟨retInt (Eq.symm (HA.out.trans (by first | rw [if_pos (by omega)] | rw [if_neg (by omega), if_pos (by omega)] | rw [if_neg (by omega), if_neg (by omega), if_pos (by omega)] | rw [if_neg (by omega), if_neg (by omega), if_neg (by omega), if_pos (by omega)] | rw [if_neg (by omega), if_neg (by omega), if_neg (by omega), if_neg (by omega)]))), (Below.refl _ _).alloc (Nat.le_refl _) _⟩
  · go_loop [58] (fun t => ∃ i : Nat, i ≤ 4 ∧ t = .int .i64 i ∧ (2 < i → l = 0)) (fun t => 4 - (intOf t).toNat)
    case atStart => exact ⟨0, by omega, rfl, by omega⟩
    case round =>
      obtain ⟨i, hi, rfl, hok⟩ := hrel
      have HOK := hid hok
      clear hok
      rcases (by omega : i = 0 ∨ i = 1 ∨ i = 2 ∨ i = 3 ∨ i = 4) with rfl | rfl | rfl | rfl | rfl
      all_goals
        go_wp2_with fail
      all_goals first
        | exact ⟨⟨1, by omega, rfl, (by have h := HOK.out; omega)⟩, by simp [intOf]⟩
        | exact ⟨⟨_, _, _, _, ⟨1, by omega, rfl, (by have h := HOK.out; omega)⟩, rfl, rfl, rfl, rfl⟩, by simp [intOf]⟩
        | exact ⟨⟨2, by omega, rfl, (by have h := HOK.out; omega)⟩, by simp [intOf]⟩
        | exact ⟨⟨_, _, _, _, ⟨2, by omega, rfl, (by have h := HOK.out; omega)⟩, rfl, rfl, rfl, rfl⟩, by simp [intOf]⟩
        | exact ⟨⟨3, by omega, rfl, (by have h := HOK.out; omega)⟩, by simp [intOf]⟩
        | exact ⟨⟨_, _, _, _, ⟨3, by omega, rfl, (by have h := HOK.out; omega)⟩, rfl, rfl, rfl, rfl⟩, by simp [intOf]⟩
        | exact ⟨⟨4, by omega, rfl, (by have h := HOK.out; omega)⟩, by simp [intOf]⟩
        | exact ⟨⟨_, _, _, _, ⟨4, by omega, rfl, (by have h := HOK.out; omega)⟩, rfl, rfl, rfl, rfl⟩, by simp [intOf]⟩
        | (go_ret; have h := HOK.out; exact ⟨retInt (Eq.symm (HA.out.trans (by first | rw [if_pos (by omega)] | rw [if_neg (by omega), if_pos (by omega)] | rw [if_neg (by omega), if_neg (by omega), if_pos (by omega)] | rw [if_neg (by omega), if_neg (by omega), if_neg (by omega), if_pos (by omega)] | rw [if_neg (by omega), if_neg (by omega), if_neg (by omega), if_neg (by omega)]))), (Below.refl _ _).alloc (Nat.le_refl _) _⟩)
/-- A request by value. -/
def ReqV (F : Fz) (v : Value) (kind : Int) (n y l x : List UInt8) : Prop := ∃ a b c d, v = .agg #[.int .i64 kind, a, b, c, d] ∧ Bs F a n ∧ Bs F b y ∧ Bs F c l ∧ Bs F d x
def wireN (k : Nat) (n y l v : Nat) : Int := partsN (hasL.getD k 0).toNat n y l v
theorem wireCheck_spec (F : Fz) (w : World) (v : Value) (k : Nat) (n y l x : List UInt8) (k1 : 1 ≤ k) (k8 : k ≤ 8) (hh : Has w) (hv : ReqV F v k n y l x) :
    Calls Tryd.prog 16 #[v] w (Tells w (.int .i64 (wireN k n.length y.length l.length x.length))) := by
  obtain ⟨a, b, c, d, rfl, ha, hb, hc, hd⟩ := hv
  obtain ⟨a0, c0, rfl, e1, e2⟩ := ha.shape
  obtain ⟨a1, c1, rfl, e3, e4⟩ := hb.shape
  obtain ⟨a2, c2, rfl, e5, e6⟩ := hc.shape
  obtain ⟨a3, c3, rfl, e7, e8⟩ := hd.shape
  have f2 := e2
  have f4 := e4
  have f6 := e6
  have f8 := e8
  unfold maxLen at f2 f4 f6 f8
  have hg : 0 < w.heap.size := World.block_lt_of_cell? w ⟨0, 0, none⟩ (hh 0 (by decide))
  have hk := hh k (by simp [hasL]; omega)
  unfold wireN
  rcases (by omega : k = 1 ∨ k = 2 ∨ k = 3 ∨ k = 4 ∨ k = 5 ∨ k = 6 ∨ k = 7 ∨ k = 8) with rfl | rfl | rfl | rfl | rfl | rfl | rfl | rfl
  · exact wireCheck_0 w 1 k1 k8 hg hk _ _ _ _ _ _ _ _ _ _ _ _ (by omega) (by omega) (by omega) (by omega) e3 e4 e5 e6
  · exact wireCheck_3 w 2 k1 k8 hg hk _ _ _ _ _ _ _ _ _ _ _ _ (by omega) (by omega) (by omega) (by omega) e3 e4 e5 e6
  · exact wireCheck_7 w 3 k1 k8 hg hk _ _ _ _ _ _ _ _ _ _ _ _ (by omega) (by omega) (by omega) (by omega) e3 e4 e5 e6
  · exact wireCheck_11 w 4 k1 k8 hg hk _ _ _ _ _ _ _ _ _ _ _ _ (by omega) (by omega) (by omega) (by omega) e3 e4 e5 e6
  · exact wireCheck_3 w 5 k1 k8 hg hk _ _ _ _ _ _ _ _ _ _ _ _ (by omega) (by omega) (by omega) (by omega) e3 e4 e5 e6
  · exact wireCheck_0 w 6 k1 k8 hg hk _ _ _ _ _ _ _ _ _ _ _ _ (by omega) (by omega) (by omega) (by omega) e3 e4 e5 e6
  · exact wireCheck_0 w 7 k1 k8 hg hk _ _ _ _ _ _ _ _ _ _ _ _ (by omega) (by omega) (by omega) (by omega) e3 e4 e5 e6
  · exact wireCheck_3 w 8 k1 k8 hg hk _ _ _ _ _ _ _ _ _ _ _ _ (by omega) (by omega) (by omega) (by omega) e3 e4 e5 e6
theorem wireCheck_kind (w : World) (kind : Int) (a b c d : Value) (hk : kind < 1 ∨ 8 < kind) :
    Calls Tryd.prog 16 #[.agg #[.int .i64 kind, a, b, c, d]] w (Tells w (.int .i64 5)) := by
  rcases hk with hk | hk
  · go_enter Tryd.func16, Tryd.ntmps16
    go_wp2_with fail
    go_ret
    exact ⟨rfl, (Below.refl _ _).alloc (Nat.le_refl _) _⟩
  · have h1 : ¬ kind < 1 := by omega
    go_enter Tryd.func16, Tryd.ntmps16
    go_wp2_with fail
    go_ret
    exact ⟨rfl, (Below.refl _ _).alloc (Nat.le_refl _) _⟩
end Go.Proofs.YtokfcofjdbnagaaDoor
