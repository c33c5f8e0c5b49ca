/- What the laws' own words make of raw writes: plain laws. No program in sight. -/
import Derived.Test.YteefnnnbbmbmcaaP10
import Derived.Test.YteefnnnbbmbmcaaP9
import Derived.Test.YteefnnnbbmbmcaaN1
namespace Go.Proofs.Yteefnnnbbmbmcaa
open Go.RowKit
def writeP (p : Pl) : Wr := ⟨nameL p.name, keyL p.key, p.gone, if p.gone then [] else p.value.take 32⟩
theorem writeP_ok (p : Pl) : WrOk (writeP p) := by
  refine ⟨nameL_len _, (keyL_len _).1, (keyL_len _).2, ?_, fun h => ?_⟩
  · unfold writeP; simp only; split
    · simp
    · simp; omega
  · have : p.gone = true := h
    unfold writeP; simp only; rw [if_pos this]
def writesN (l : List Pl) (n : Nat) : List Wr := (l.take n).map writeP
theorem writesN_ok (l : List Pl) (n : Nat) : ∀ w ∈ writesN l n, WrOk w := by
  intro w hw
  obtain ⟨p, _, rfl⟩ := List.mem_map.1 hw
  exact writeP_ok p
theorem writesN_len (l : List Pl) (n : Nat) : (writesN l n).length ≤ n := by simp [writesN]; omega
theorem writesN_succ {l : List Pl} {k : Nat} {p : Pl} (h : l[k]? = some p) : writesN l (k + 1) = writesN l k ++ [writeP p] := by
  obtain ⟨hk, rfl⟩ := List.getElem?_eq_some_iff.1 h
  unfold writesN
  rw [List.take_succ_eq_append_getElem hk, List.map_append]
  rfl
theorem writesN_end {l : List Pl} {k m : Nat} (h : l.length ≤ k) (hm : k ≤ m) : writesN l k = writesN l m := by
  unfold writesN; rw [List.take_of_length_le h, List.take_of_length_le (by omega)]
def forestW (ws : List Wr) : Forest := ws.foldl (fun f w => (applyF f [w]).getD f) []
theorem forestW_snoc (ws : List Wr) (w : Wr) : forestW (ws ++ [w]) = (applyF (forestW ws) [w]).getD (forestW ws) := by unfold forestW; rw [List.foldl_append]; rfl
theorem applyF_one (f : Forest) (w : Wr) : applyF f [w] = writeF f w := by
  simp only [applyF]
  cases writeF f w <;> rfl
theorem forestW_ok : ∀ {ws : List Wr}, (∀ w ∈ ws, WrOk w) → ForestOk ws.length (forestW ws) := by
  have key : ∀ (n : Nat) (ws : List Wr), ws.length = n → (∀ w ∈ ws, WrOk w) → ForestOk n (forestW ws) := by
    intro n
    induction n with
    | zero => intro ws hn _; rw [List.eq_nil_of_length_eq_zero hn]; exact ForestOk.nil 0
    | succ n ih0 =>
    intro ws0 hn h
    obtain ⟨ws, w, rfl⟩ : ∃ ws w, ws0 = ws ++ [w] := ⟨ws0.dropLast, ws0.getLast (by intro e; subst e; cases hn), (List.dropLast_concat_getLast _).symm⟩
    have hn' : ws.length = n := by simpa using hn
    have ih := ih0 ws hn' fun x hx => h x (by simp [hx])
    rw [forestW_snoc, applyF_one]
    cases e : writeF (forestW ws) w with
    | none => exact ih.mono (by omega)
    | some g => exact writeF_ok ih (h w (by simp)) e
  exact fun {ws} h => key _ ws rfl h
end Go.Proofs.Yteefnnnbbmbmcaa
