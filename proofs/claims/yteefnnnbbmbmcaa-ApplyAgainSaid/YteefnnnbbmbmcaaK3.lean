/- Contracts of trees, as the laws use them -/
import Derived.Test.YteefnnnbbmbmcaaK2
namespace Go.Proofs.Yteefnnnbbmbmcaa
open Go.RowKit
set_option maxRecDepth 100000
set_option linter.unusedVariables false
set_option linter.unusedSimpArgs false
theorem put_ok {n : Nat} {l : List Pr} {p : Pr} (h : TreeOk n l) (hn : n < 60) (hp : PairOk p) : putE l p = 0 ∧ putR l p = putT l p.1 p.2 ∧ TreeOk (n + 1) (putT l p.1 p.2) := by
  have h1 := pairE_ok.2 hp
  have h2 := len_putT l p.1 p.2
  have h3 := h.len
  have hlen : (putT l p.1 p.2).length ≤ n + 1 := by rw [h2]; split <;> omega
  have he : putE l p = 0 := by unfold putE; rw [if_neg (by omega), if_neg (by omega)]
  refine ⟨he, by unfold putR; rw [if_pos he], h.put (m := n + 1) hp hlen⟩
theorem putOk_spec (F : Fz) (w : World) (v u : Value) {n : Nat} (l : List Pr) (p : Pr) (hs : Sat w F) (hv : Prs F v l) (hu : Pr2V F u p) (ok : TreeOk n l) (hn : n < 60) (hp : PairOk p) :
    Calls Try.prog 53 #[v, u] w (Gives w F (PrsE (putT l p.1 p.2) 0)) := by
  obtain ⟨h1, h2, _⟩ := put_ok ok hn hp
  have := put_spec F w v u l p hs hv hu (ok.mono (by omega)) (by have := hp.2.1; omega) (by have := hp.2.2; omega)
  rwa [h1, h2] at this
theorem delOk_spec (F : Fz) (w : World) (v u : Value) (l : List Pr) (k : By) (hs : Sat w F) (hv : Prs F v l) (hu : Bs F u k) (ok : TreeOk 60 l) (hk : 1 ≤ k.length ∧ k.length ≤ 16) :
    Calls Try.prog 55 #[v, u] w (Gives w F (PrsE (delT l k) 0)) := by
  have := delete_spec F w v u l k hs hv hu ok
  have h := checkN_ok hk.1 hk.2
  unfold delR delE at this
  rw [if_pos h, h] at this
  exact this
theorem rangeOk_spec (F : Fz) (w : World) (v u z : Value) (l : List Pr) (x y : By) (hs : Sat w F) (hv : Prs F v l) (hx : Bs F u x) (hy : Bs F z y) (ok : TreeOk 60 l) (h1 : 1 ≤ x.length ∧ x.length ≤ 16) (h2 : 1 ≤ y.length ∧ y.length ≤ 16) :
    Calls Try.prog 49 #[v, u, z] w (Gives w F (PrsE (rangeT l x y) 0)) := by
  have := range_spec F w v u z l x y hs hv hx hy ok
  have he : rangeE x y = 0 := by unfold rangeE; rw [checkN_ok h1.1 h1.2, checkN_ok h2.1 h2.2]; rfl
  unfold rangeR at this
  rw [he, if_pos rfl] at this
  exact this
theorem rangeBad_spec (F : Fz) (w : World) (v u z : Value) (l : List Pr) (x y : By) (hs : Sat w F) (hv : Prs F v l) (hx : Bs F u x) (hy : Bs F z y) (ok : TreeOk 60 l) (he : rangeE x y = 1) :
    Calls Try.prog 49 #[v, u, z] w (Gives w F (PrsE [] 1)) := by
  have := range_spec F w v u z l x y hs hv hx hy ok
  unfold rangeR at this
  rw [he, if_neg (by decide)] at this
  exact this
theorem getIs_spec (F : Fz) (w : World) (v u : Value) (l : List Pr) (k : By) {o : Option By} (hs : Sat w F) (hv : Prs F v l) (hu : Bs F u k) (ok : TreeOk 60 l) (hk : 1 ≤ k.length ∧ k.length ≤ 16) (h : getT l k = o) :
    Calls Try.prog 51 #[v, u] w (Gives w F (GetR o 0)) := by
  subst h; exact get_spec F w v u l k hs hv hu ok hk.1 hk.2
theorem treeCheckOk_spec (F : Fz) (w : World) (v : Value) (l : List Pr) (hs : Sat w F) (hv : Prs F v l) (ok : TreeOk 60 l) :
    Calls Try.prog 54 #[v] w (Tells w (.int .i64 0)) := by
  have := treeCheck_spec F w v l hs hv
  rwa [treeE_ok.2 ok] at this
end Go.Proofs.Yteefnnnbbmbmcaa
