/- Walks: forest.Name, canopykeep.name -/
import Derived.Test.YteefnnnbbmbmcaaB
import Derived.Test.YteefnnnbbmbmcaaS2
namespace Go.Proofs.Yteefnnnbbmbmcaa
open Go.RowKit
set_option maxRecDepth 100000
set_option linter.unusedVariables false
theorem retInt {k : IntKind} {a b : Int} (h : a = b) : Ending.returned (.int k a) = .returned (.int k b) := by rw [h]
def nameN (n : Nat) : Int := if 1 ≤ n ∧ n ≤ 8 then 0 else 1
theorem nameN_ok {n : Nat} (h1 : 1 ≤ n) (h2 : n ≤ 8) : nameN n = 0 := by unfold nameN; rw [if_pos ⟨h1, h2⟩]
theorem nameN_bad {n : Nat} (h : ¬ (1 ≤ n ∧ n ≤ 8)) : nameN n = 1 := by unfold nameN; rw [if_neg h]
set_option maxHeartbeats 400000 in
theorem name_len (w : World) (a : Option Addr) (n c : Nat) :
    Calls Try.prog 94 #[.slice a n c] w fun e w' => e = .returned (.int .i64 (nameN n)) ∧ w' = w := by
  by_cases h : 1 ≤ n ∧ n ≤ 8
  · rw [nameN_ok h.1 h.2]
    obtain ⟨h1, h2⟩ := h
    go_enter Try.func94, Try.ntmps94
    go_wp2
    go_ret
    exact ⟨rfl, rfl⟩
  · rw [nameN_bad h]
    by_cases h1 : n < 1
    · clear h
      go_enter Try.func94, Try.ntmps94
      go_wp2
      go_ret
      exact ⟨rfl, rfl⟩
    · have h2 : 8 < n := by omega
      clear h
      go_enter Try.func94, Try.ntmps94
      go_wp2
      go_ret
      exact ⟨rfl, rfl⟩
def nameL (l : List UInt8) : List UInt8 := if l = [] then [0] else l.take 8
theorem nameL_len (l : List UInt8) : 1 ≤ (nameL l).length ∧ (nameL l).length ≤ 8 := by
  unfold nameL
  split
  · simp
  · rename_i h
    have := List.length_pos_iff.2 h
    simp only [List.length_take]
    omega
set_option maxHeartbeats 400000 in
theorem name_spec (F : Fz) (w : World) (v : Value) (l : List UInt8) (hs : Sat w F) (hv : Bs F v l) :
    Calls Try.prog 91 #[v] w (Gives w F fun F' u => Bs F' u (nameL l)) := by
  obtain ⟨a, c, rfl, hlc, hcm⟩ := hv.shape
  by_cases h : l = []
  · subst h
    go_enter Try.func91, Try.ntmps91
    go_wp2_with fail
    go_ret
    have hown := World.ownsRow_lit (base := w.heap.size) (e := 5) (size := 1) w #[.int .u8 0] 1 (Nat.le_refl _) (by unfold maxLen; omega) rfl
    obtain ⟨F', h1, h2⟩ := Gr.row hs ((Below.refl _ _).alloc (Nat.le_refl _) _) hown
    exact ⟨_, F', rfl, h1, h2⟩
  · have hb : ((l.length : Int) == 0) = false := by
      have := List.length_pos_iff.2 h
      rw [beq_eq_false_iff_ne]; omega
    have hk : nameL l = l.take 8 := by unfold nameL; rw [if_neg h]
    rw [hk]
    clear hk
    go_enter Try.func91, Try.ntmps91
    go_wp2_with (go_at_call 52; refine (some_spec _ _ _ _ _ hs hv (by omega) (by omega)).mono ?_; rintro e w1 ⟨v1, F1, rfl, g1, r1⟩)
    go_ret
    exact ⟨_, F1, rfl, g1, r1⟩
end Go.Proofs.Yteefnnnbbmbmcaa
