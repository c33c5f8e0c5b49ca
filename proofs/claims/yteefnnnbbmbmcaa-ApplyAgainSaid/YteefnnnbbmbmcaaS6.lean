/- More rules for a walk: texts, frozen blocks. No program in sight. -/
import Derived.Test.YteefnnnbbmbmcaaS5
namespace Go.Proofs.Yteefnnnbbmbmcaa
open Go.RowKit
set_option linter.unusedVariables false
section
variable {P : Program} {ρ : Operand → Value} {w : World} {d : Option Tmp} {t X Y : TypeId} {pos : String} {after : Array Edge} {guard : Option (Nat × Bool)} {x y : Operand} {l m : List UInt8}
def strB (op : BinOp) (l m : List UInt8) : Bool := match op with | .lss => Op.bytesLess l m | .leq => Op.bytesLess l m || l == m | .gtr => !(Op.bytesLess l m || l == m) | .geq => !Op.bytesLess l m | .eql => l == m | _ => !(l == m)
theorem toList_bytes (l : List UInt8) : (⟨l.toArray⟩ : ByteArray).toList = l := by simp
theorem ex_strop {op : BinOp} {b : Bool} (hop : op = .lss ∨ op = .leq ∨ op = .gtr ∨ op = .geq ∨ op = .eql ∨ op = .neq) (hx : ρ x = .string ⟨l.toArray⟩) (hy : ρ y = .string ⟨m.toArray⟩)
    (h : strB op l m = b) :
    (execOp ρ ⟨d, .binOp op X x y Y, t, pos, after, guard⟩).run P w = .ok (.value (.bool b)) w := by
  subst h
  have e : (eqGuard op X x y (.string ⟨l.toArray⟩) (.string ⟨m.toArray⟩)).run P w = .ok () w := by
    unfold eqGuard
    rcases hop with rfl | rfl | rfl | rfl | rfl | rfl <;> rfl
  have e2 : (binOp op X (.string ⟨l.toArray⟩) (.string ⟨m.toArray⟩)).run P w = .ok (.bool (strB op l m)) w := by
    rcases hop with rfl | rfl | rfl | rfl | rfl | rfl <;> simp [binOp, Op.stringOp, strB]
  simp only [execOp, hx, hy, Sem.run_bind, e, Result.andThen_ok, e2, Sem.run_pure]
theorem ex_convert {v r : Value} (hx : ρ x = v) (h : (convert X Y v).run P w = .ok r w) : (execOp ρ ⟨d, .convert X Y x, t, pos, after, guard⟩).run P w = .ok (.value r) w := by
  subst hx
  simp only [execOp, Sem.run_bind, h, Result.andThen_ok, Sem.run_pure]
end
section
variable {P : Program} {ρ : Operand → Value} {w : World} {d : Option Tmp} {t X T : TypeId} {pos : String} {after : Array Edge} {guard : Option (Nat × Bool)} {x y : Operand} {k : IntKind} {m n r : Int}
theorem ex_cap {E : TypeId} {A : Option Addr} {l c : Nat} (hT : P.underlying T = some (.slice E)) (h : ρ x = .slice A l c) : (execOp ρ ⟨d, .call ⟨.builtin .cap, #[x], #[T]⟩, t, pos, after, guard⟩).run P w = .ok (.value (.int .i64 c)) w := by
  simp [execOp, resolve, invoke, builtin, Builtin.cap_, h, run_underlying hT w]; rfl
theorem ex_max {U : TypeId} (hx : ρ x = .int k m) (hy : ρ y = .int k n) (e : (if m < n then n else m) = r) : (execOp ρ ⟨d, .call ⟨.builtin .max, #[x, y], #[T, U]⟩, t, pos, after, guard⟩).run P w = .ok (.value (.int k r)) w := by
  subst e
  simp [execOp, resolve, invoke, builtin, Builtin.max_, Builtin.max2, hx, hy]
theorem ex_min {U : TypeId} (hx : ρ x = .int k m) (hy : ρ y = .int k n) (e : (if n < m then n else m) = r) : (execOp ρ ⟨d, .call ⟨.builtin .min, #[x, y], #[T, U]⟩, t, pos, after, guard⟩).run P w = .ok (.value (.int k r)) w := by
  subst e
  simp [execOp, resolve, invoke, builtin, Builtin.min_, Builtin.min2, hx, hy]
/-- x[l:h:m] -/
theorem ex_slice3 {E : TypeId} {A : Option Addr} {n c : Nat} {lo hi mx : Operand} {l h m : Nat} {sz : Nat} {v : Value} (hX : P.underlying X = some (.slice E)) (hx : ρ x = .slice A n c) (hsz : (sizeOf E).run P w = .ok sz w)
    (hl : ρ lo = .int .i64 l) (hh : ρ hi = .int .i64 h) (hm : ρ mx = .int .i64 m) (h1 : l ≤ h) (h2 : h ≤ m) (h3 : m ≤ c)
    (hv : v = .slice (if m = l then A else A.map (·.add (l * sz))) (h - l) (m - l)) : (execOp ρ ⟨d, .slice X x (some lo) (some hi) (some mx), t, pos, after, guard⟩).run P w = .ok (.value v) w := by
  subst hv
  have b1 : ∀ (z y : Nat) (code : BoundsCode), z ≤ y → (Instr.sliceBound (.int .i64 z) y code).run P w = .ok z w := by
    intro z y code hzy
    have : (0 : Int) ≤ (z : Int) ∧ (z : Int) ≤ (y : Int) := by omega
    simp [Instr.sliceBound, asIntOf, this]
  have hb : (Instr.sliceBounds true n c (some (ρ lo)) (some (ρ hi)) (some (ρ mx))).run P w = .ok (l, h, m) w := by
    simp [Instr.sliceBounds, hl, hh, hm, b1 _ _ _ h1, b1 _ _ _ h2, b1 _ _ _ h3]
  have hs : (Instr.sliceAt X (.slice A n c) (some (ρ lo)) (some (ρ hi)) (some (ρ mx))).run P w = .ok (.slice (if m = l then A else A.map (·.add (l * sz))) (h - l) (m - l)) w := by
    simp [Instr.sliceAt, Sem.run_bind, run_underlying hX w, Instr.slice, hb, hsz]
  simp [execOp, hx, hs]
theorem ex_slice3_0 {E : TypeId} {A : Option Addr} {n c : Nat} {hi mx : Operand} {h m : Nat} {sz : Nat} {v : Value} (hX : P.underlying X = some (.slice E)) (hx : ρ x = .slice A n c) (hsz : (sizeOf E).run P w = .ok sz w)
    (hh : ρ hi = .int .i64 h) (hm : ρ mx = .int .i64 m) (h2 : h ≤ m) (h3 : m ≤ c)
    (hv : v = .slice A h m) : (execOp ρ ⟨d, .slice X x none (some hi) (some mx), t, pos, after, guard⟩).run P w = .ok (.value v) w := by
  subst hv
  have b1 : ∀ (z y : Nat) (code : BoundsCode), z ≤ y → (Instr.sliceBound (.int .i64 z) y code).run P w = .ok z w := by
    intro z y code hzy
    have : (0 : Int) ≤ (z : Int) ∧ (z : Int) ≤ (y : Int) := by omega
    simp [Instr.sliceBound, asIntOf, this]
  have hb : (Instr.sliceBounds true n c none (some (ρ hi)) (some (ρ mx))).run P w = .ok (0, h, m) w := by
    simp [Instr.sliceBounds, hh, hm, b1 _ _ _ h2, b1 _ _ _ h3]
  have ha : (if m = 0 then A else A.map (·.add (0 * sz))) = A := by
    have : A.map (·.add (0 * sz)) = A := by cases A <;> simp [Addr.add]
    rw [this]; split <;> rfl
  have hs : (Instr.sliceAt X (.slice A n c) none (some (ρ hi)) (some (ρ mx))).run P w = .ok (.slice A h m) w := by
    simp only [Instr.sliceAt, Sem.run_bind, run_underlying hX w, Result.andThen_ok, Instr.slice, hb, hsz, Sem.run_pure, Nat.sub_zero, ha]
  simp [execOp, hx, hs]
end
/-- A block of bytes that is done with. -/
theorem bs_of_block {F : Fz} {n : Nat} {c : List Value} {l : List UInt8} (h : ∀ j v, c[j]? = some v → cellF F n j = some v) (e : c = l.map bv) (hl : l.length ≤ maxLen) : Bs F (.slice (some ⟨n, 0, none⟩) l.length l.length) l := by
  subst e
  exact Rw.of_cells (Nat.le_refl _) hl fun j u hu => by rw [Nat.zero_add]; exact h j u hu
/-- A block of structs that is done with. -/
theorem sl_of_block {α : Type} {k : Nat} {R : Fz → List Value → α → Prop} {F : Fz} {n : Nat} {c : List Value} {el : List (List Value)} {l : List α} (h : ∀ j v, c[j]? = some v → cellF F n j = some v) (e : c = el.flatten) (hR : AllR (R F) el l) (hk : ∀ x ∈ el, x.length = k) (hl : l.length ≤ maxLen) : Sl k R F (.slice (some ⟨n, 0, none⟩) l.length l.length) l := by
  subst e
  exact ⟨el, Rw.of_cells (Nat.le_refl _) hl fun j u hu => by rw [Nat.zero_add]; exact h j u hu, hR, hk⟩
end Go.Proofs.Yteefnnnbbmbmcaa
