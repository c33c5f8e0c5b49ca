/- Contracts of forests, as the laws use them -/
import Derived.Test.YteefnnnbbmbmcaaK5
namespace Go.Proofs.Yteefnnnbbmbmcaa
open Go.RowKit
set_option maxRecDepth 100000
set_option linter.unusedVariables false
set_option linter.unusedSimpArgs false
theorem applyE_ok {l : Forest} {ws : List Wr} (h : ∀ w ∈ ws, WrOk w) (hl : ws.length ≤ 10) : applyE l ws = match applyF l ws with | some g => (0, g) | none => (11, []) := by
  unfold applyE
  rw [if_neg (by omega), applyR_ok h]
  cases applyF l ws <;> rfl
theorem applyF_ok60 : ∀ {ws : List Wr} {f g : Forest}, ForestOk 60 f → (∀ w ∈ ws, WrOk w) → applyF f ws = some g → ForestOk 60 g
  | [], f, g, hf, _, h => by cases h; exact hf
  | w :: ws, f, g, hf, hw, h => by
    unfold applyF at h
    split at h
    · rename_i f1 e
      exact applyF_ok60 (writeF_ok60 hf (hw w (by simp)) e) (fun x hx => hw x (by simp [hx])) h
    · cases h
theorem forestCheckOk_spec (F : Fz) (w : World) (v : Value) (l : Forest) (hs : Sat w F) (hv : Tns F v l) (ok : ForestOk 60 l) :
    Calls Try.prog 61 #[v] w (Tells w (.int .i64 0)) := by
  have := forestCheck_spec F w v l hs hv
  rwa [forestE_ok.2 ok] at this
/-- Two writes to two places, in any order. -/
theorem apply_comm {f x y : Forest} {a b : Wr} (hf : ForestOk 60 f) (ha : WrOk a) (hb : WrOk b) (hx : applyF f [a, b] = some x) (hy : applyF f [b, a] = some y) (hd : ¬ (a.name = b.name ∧ a.key = b.key)) : x = y := by
  have h1 : ∀ w ∈ [a, b], WrOk w := by intro w hw; simp at hw; rcases hw with rfl | rfl <;> assumption
  have h2 : ∀ w ∈ [b, a], WrOk w := by intro w hw; simp at hw; rcases hw with rfl | rfl <;> assumption
  refine forest_ext (applyF_ok60 hf h1 hx) (applyF_ok60 hf h2 hy) fun n k => ?_
  rw [getF_applyF hf h1 hx, getF_applyF hf h2 hy]
  simp only [lastW_cons, lastW_nil]
  by_cases h3 : a.name = n ∧ a.key = k
  · by_cases h4 : b.name = n ∧ b.key = k
    · exact absurd ⟨h3.1.trans h4.1.symm, h3.2.trans h4.2.symm⟩ hd
    · rw [if_pos h3, if_neg h4]
  · by_cases h4 : b.name = n ∧ b.key = k
    · rw [if_neg h3, if_pos h4]
    · rw [if_neg h3, if_neg h4]
end Go.Proofs.Yteefnnnbbmbmcaa
