/- Rules for a walk, operation by operation. No program in sight. -/
import Derived.Test.YteefnnnbbmbmcaaFW
namespace Go.Proofs.Yteefnnnbbmbmcaa
open Go.RowKit
set_option linter.unusedVariables false
/-- The rules' own words for what is left of a region: no unfolding looks into them. -/
structure WL (P : Program) (ops : Array Oper) (Q : Exit → Act → World → Prop) (l : List Oper) (a : Act) (w : World) : Prop where
  out : wpList P ops Q l a w
structure GW (P : Program) (md : Region.Mode) (ops : Array Oper) (C : World → Prop) (Sp : Nat → OpSpec) (Lq : Act → Vals → Prop) (l : List Oper) (k : Nat) (a : Act) (Vs : Vals) : Prop where
  out : wpG P md ops C Sp Lq l k a Vs
section
variable {P : Program} {ops : Array Oper} {Q : Exit → Act → World → Prop} {a : Act} {w w' : World} {rest : List Oper} {o : Oper}
theorem region_wl {id : Nat} {l : List Oper} (h : WL P l.toArray Q l a w) : (Code.region id l.toArray false).wp P Q a w := wp_region_lit h.out
theorem wl_nil (h : Q .normal a w) : WL P ops Q [] a w := ⟨wpList_nil h⟩
theorem do_ (hw : Region.wanted o (yielded ops a.tmps) = true) (v : Value) (hr : (execOp a.eval o).run P w = .ok (.value v) w') (h : WL P ops Q rest (a.put o.dst v) w') : WL P ops Q (o :: rest) a w := by
  refine ⟨?_⟩
  unfold wpList; rw [if_pos hw]; left; unfold Oper.wp; rw [hr]; exact h.out
theorem doS (hw : Region.wanted o (yielded ops a.tmps) = true) (hr : (execOp a.eval o).run P w = .ok .skip w') (h : WL P ops Q rest (a.put o.dst undef) w') : WL P ops Q (o :: rest) a w := by
  refine ⟨?_⟩
  unfold wpList; rw [if_pos hw]; left; unfold Oper.wp; rw [hr]; exact h.out
theorem doC {k : FuncId} {vs : Array Value} {R : Ending → World → Prop} (hw : Region.wanted o (yielded ops a.tmps) = true) (hr : (execOp a.eval o).run P w = .ok (.enter k vs) w) (hc : Calls P k vs w R)
    (h : ∀ e w', R e w' → ∃ v, e = .returned v ∧ WL P ops Q rest (a.put o.dst v) w') : WL P ops Q (o :: rest) a w := by
  refine ⟨?_⟩
  unfold wpList; rw [if_pos hw]; left; unfold Oper.wp; rw [hr]
  exact hc.mono fun e w' hR => by obtain ⟨v, rfl, hv⟩ := h e w' hR; exact hv.out
theorem doN (hw : Region.wanted o (yielded ops a.tmps) = false) (h : WL P ops Q rest (a.put o.dst undef) w) : WL P ops Q (o :: rest) a w := ⟨wpList_skip hw h.out⟩
end
section
variable {P : Program} {ρ : Operand → Value} {w : World} {d : Option Tmp} {t : TypeId} {pos : String} {after : Array Edge} {guard : Option (Nat × Bool)}
theorem ex_move (x : Operand) : (execOp ρ ⟨d, .move x, t, pos, after, guard⟩).run P w = .ok (.value (ρ x)) w := rfl
theorem ex_assign (x : Operand) : (execOp ρ ⟨d, .assign x, t, pos, after, guard⟩).run P w = .ok (.value (ρ x)) w := rfl
theorem ex_pick {c x y : Operand} {b : Bool} (h : ρ c = .bool b) : (execOp ρ ⟨d, .pick c x y, t, pos, after, guard⟩).run P w = .ok (.value (if b then ρ x else ρ y)) w := by
  simp only [execOp, h]; cases b <;> rfl
theorem ex_extract {x : Operand} {i : Nat} {vs : Array Value} {v : Value} (h : ρ x = .tuple vs) (hv : vs[i]? = some v) : (execOp ρ ⟨d, .extract x i, t, pos, after, guard⟩).run P w = .ok (.value v) w := by
  simp [execOp, h, Instr.extract, hv]
theorem ex_len {x : Operand} {T E : TypeId} {A : Option Addr} {n c : Nat} (hT : P.underlying T = some (.slice E)) (h : ρ x = .slice A n c) : (execOp ρ ⟨d, .call ⟨.builtin .len, #[x], #[T]⟩, t, pos, after, guard⟩).run P w = .ok (.value (.int .i64 n)) w := by
  simp [execOp, resolve, invoke, builtin, Builtin.len_, h, run_underlying hT w]; rfl
theorem ex_nil {x : Operand} {p : Addr} (h : ρ x = .pointer (some p)) : (execOp ρ ⟨d, .nilCheck x, t, pos, after, guard⟩).run P w = .ok (.value (.pointer (some p))) w := by
  simp only [execOp, h]; rfl
theorem ex_load {x : Operand} {T : TypeId} {p : Addr} {v : Value} (h : ρ x = .pointer (some p)) (hl : (loadVar T p).run P w = .ok v w) : (execOp ρ ⟨d, .load T x, t, pos, after, guard⟩).run P w = .ok (.value v) w := by
  simp [execOp, h, Instr.loadAt, Instr.sureAddr, hl]
theorem ex_store {x y : Operand} {T : TypeId} {p : Addr} {w' : World} (h : ρ x = .pointer (some p)) (hl : (storeVar T p (ρ y)).run P w = .ok () w') : (execOp ρ ⟨d, .store T x y, t, pos, after, guard⟩).run P w = .ok .skip w' := by
  simp [execOp, h, Instr.storeAt, Instr.sureAddr, hl]
theorem ex_fn {xs : Array Operand} {ats : Array TypeId} {k : FuncId} {vs : Array Value} (hv : xs.map ρ = vs) (hf : ρ (.func k) = .func (.func k) #[] #[]) (hk : (callFunc k vs).run P w = .ok (.enter k vs) w) : (execOp ρ ⟨d, .call ⟨.value (.func k), xs, ats⟩, t, pos, after, guard⟩).run P w = .ok (.enter k vs) w := by
  subst hv
  have : (#[] : Array Value) ++ Array.map ρ xs ++ #[] = Array.map ρ xs := by simp
  simp only [execOp, resolve, hf, Deferred.ofValue, Sem.run_bind, Sem.run_pure, Result.andThen_ok, invoke, this]
  exact hk
theorem ex_fnv {xs : Array Operand} {ats : Array TypeId} {k : FuncId} {vs : Array Value} {v : Value} (hv : xs.map ρ = vs) (hf : ρ (.func k) = .func (.func k) #[] #[]) (hk : (callFunc k vs).run P w = .ok (.value v) w) : (execOp ρ ⟨d, .call ⟨.value (.func k), xs, ats⟩, t, pos, after, guard⟩).run P w = .ok (.value v) w := by
  subst hv
  have : (#[] : Array Value) ++ Array.map ρ xs ++ #[] = Array.map ρ xs := by simp
  simp only [execOp, resolve, hf, Deferred.ofValue, Sem.run_bind, Sem.run_pure, Result.andThen_ok, invoke, this]
  exact hk
/-- A call through a function value. -/
theorem ex_fv {c : Operand} {xs : Array Operand} {ats : Array TypeId} {k : FuncId} {fs cs vs : Array Value} (hf : ρ c = .func (.func k) fs cs) (hv : fs ++ xs.map ρ ++ cs = vs) (hk : (callFunc k vs).run P w = .ok (.enter k vs) w) : (execOp ρ ⟨d, .call ⟨.value c, xs, ats⟩, t, pos, after, guard⟩).run P w = .ok (.enter k vs) w := by
  subst hv
  simp only [execOp, resolve, hf, Deferred.ofValue, Sem.run_bind, Sem.run_pure, Result.andThen_ok, invoke]
  exact hk
end
section
variable {P : Program} {ρ : Operand → Value} {w : World} {d : Option Tmp} {t : TypeId} {pos : String} {after : Array Edge} {guard : Option (Nat × Bool)} {x y : Operand} {X Y : TypeId} {k : IntKind} {m n : Int}
theorem run_binInt (op : BinOp) (hop : op ≠ .shl ∧ op ≠ .shr) : (binOp op X (.int k m) (.int k n)).run P w = (match op with
    | .add | .sub | .mul => Op.intArith op k m n
    | .quo | .rem => Op.intDiv op k m n
    | .and | .or | .xor | .andNot => Op.intBits op k m n
    | _ => Op.intCmp op m n).run P w := by
  cases op <;> simp [binOp] <;> simp_all
theorem ex_bin {op : BinOp} {v : Value} (hx : ρ x = .int k m) (hy : ρ y = .int k n) (h : (binOp op X (.int k m) (.int k n)).run P w = .ok v w) : (execOp ρ ⟨d, .binOp op X x y Y, t, pos, after, guard⟩).run P w = .ok (.value v) w := by
  have e : (eqGuard op X x y (.int k m) (.int k n)).run P w = .ok () w := by
    unfold eqGuard
    cases op <;> rfl
  simp only [execOp, hx, hy, Sem.run_bind, e, Result.andThen_ok, h, Sem.run_pure]
theorem ex_lss {b : Bool} (hx : ρ x = .int k m) (hy : ρ y = .int k n) (h : decide (m < n) = b) : (execOp ρ ⟨d, .binOp .lss X x y Y, t, pos, after, guard⟩).run P w = .ok (.value (.bool b)) w := by
  subst h; exact ex_bin hx hy (by rw [run_binInt _ (by simp)]; rfl)
theorem ex_leq {b : Bool} (hx : ρ x = .int k m) (hy : ρ y = .int k n) (h : decide (m ≤ n) = b) : (execOp ρ ⟨d, .binOp .leq X x y Y, t, pos, after, guard⟩).run P w = .ok (.value (.bool b)) w := by
  subst h; exact ex_bin hx hy (by rw [run_binInt _ (by simp)]; rfl)
theorem ex_gtr {b : Bool} (hx : ρ x = .int k m) (hy : ρ y = .int k n) (h : decide (n < m) = b) : (execOp ρ ⟨d, .binOp .gtr X x y Y, t, pos, after, guard⟩).run P w = .ok (.value (.bool b)) w := by
  subst h; exact ex_bin hx hy (by rw [run_binInt _ (by simp)]; rfl)
theorem ex_geq {b : Bool} (hx : ρ x = .int k m) (hy : ρ y = .int k n) (h : decide (n ≤ m) = b) : (execOp ρ ⟨d, .binOp .geq X x y Y, t, pos, after, guard⟩).run P w = .ok (.value (.bool b)) w := by
  subst h; exact ex_bin hx hy (by rw [run_binInt _ (by simp)]; rfl)
theorem ex_eql {b : Bool} (hx : ρ x = .int k m) (hy : ρ y = .int k n) (h : (m == n) = b) : (execOp ρ ⟨d, .binOp .eql X x y Y, t, pos, after, guard⟩).run P w = .ok (.value (.bool b)) w := by
  subst h; exact ex_bin hx hy (by rw [run_binInt _ (by simp)]; rfl)
theorem ex_neq {b : Bool} (hx : ρ x = .int k m) (hy : ρ y = .int k n) (h : (m != n) = b) : (execOp ρ ⟨d, .binOp .neq X x y Y, t, pos, after, guard⟩).run P w = .ok (.value (.bool b)) w := by
  subst h; exact ex_bin hx hy (by rw [run_binInt _ (by simp)]; rfl)
theorem wrap64_in {z : Int} (h1 : -9223372036854775808 ≤ z) (h2 : z ≤ 9223372036854775807) : IntKind.i64.wrap z = z := IntWalk.i64_in z ⟨h1, h2⟩
theorem ex_add {r : Int} (hx : ρ x = .int .i64 m) (hy : ρ y = .int .i64 n) (e : m + n = r) (h1 : -9223372036854775808 ≤ r) (h2 : r ≤ 9223372036854775807) : (execOp ρ ⟨d, .binOp .add X x y Y, t, pos, after, guard⟩).run P w = .ok (.value (.int .i64 r)) w := by
  subst e
  refine ex_bin hx hy ?_
  rw [run_binInt _ (by simp)]
  show Result.ok (Value.int .i64 (IntKind.i64.wrap (m + n))) w = _
  rw [wrap64_in h1 h2]
theorem ex_sub {r : Int} (hx : ρ x = .int .i64 m) (hy : ρ y = .int .i64 n) (e : m - n = r) (h1 : -9223372036854775808 ≤ r) (h2 : r ≤ 9223372036854775807) : (execOp ρ ⟨d, .binOp .sub X x y Y, t, pos, after, guard⟩).run P w = .ok (.value (.int .i64 r)) w := by
  subst e
  refine ex_bin hx hy ?_
  rw [run_binInt _ (by simp)]
  show Result.ok (Value.int .i64 (IntKind.i64.wrap (m - n))) w = _
  rw [wrap64_in h1 h2]
theorem ex_mul {r : Int} (hx : ρ x = .int .i64 m) (hy : ρ y = .int .i64 n) (e : m * n = r) (h1 : -9223372036854775808 ≤ r) (h2 : r ≤ 9223372036854775807) : (execOp ρ ⟨d, .binOp .mul X x y Y, t, pos, after, guard⟩).run P w = .ok (.value (.int .i64 r)) w := by
  subst e
  refine ex_bin hx hy ?_
  rw [run_binInt _ (by simp)]
  show Result.ok (Value.int .i64 (IntKind.i64.wrap (m * n))) w = _
  rw [wrap64_in h1 h2]
theorem ex_not {b c : Bool} (hx : ρ x = .bool b) (h : (!b) = c) : (execOp ρ ⟨d, .unOp .not X x, t, pos, after, guard⟩).run P w = .ok (.value (.bool c)) w := by
  subst h; simp only [execOp, hx]; rfl
theorem ex_eqlB {b c r : Bool} (hX : P.underlying X = some .bool) (hx : ρ x = .bool b) (hy : ρ y = .bool c) (h : (b == c) = r) : (execOp ρ ⟨d, .binOp .eql X x y Y, t, pos, after, guard⟩).run P w = .ok (.value (.bool r)) w := by
  subst h
  have e : (binOp .eql X (.bool b) (.bool c)).run P w = .ok (.bool (b == c)) w := by
    simp only [binOp, Sem.run_bind, run_equal_bool w X b c hX, Result.andThen_ok, Sem.run_pure]
  have e2 : (eqGuard .eql X x y (.bool b) (.bool c)).run P w = .ok () w := rfl
  simp only [execOp, hx, hy, Sem.run_bind, e2, Result.andThen_ok, e, Sem.run_pure]
theorem ex_neqB {b c r : Bool} (hX : P.underlying X = some .bool) (hx : ρ x = .bool b) (hy : ρ y = .bool c) (h : (b != c) = r) : (execOp ρ ⟨d, .binOp .neq X x y Y, t, pos, after, guard⟩).run P w = .ok (.value (.bool r)) w := by
  subst h
  have e : (binOp .neq X (.bool b) (.bool c)).run P w = .ok (.bool (b != c)) w := by
    simp only [binOp, Sem.run_bind, run_equal_bool w X b c hX, Result.andThen_ok, Sem.run_pure]
    rfl
  have e2 : (eqGuard .neq X x y (.bool b) (.bool c)).run P w = .ok () w := rfl
  simp only [execOp, hx, hy, Sem.run_bind, e2, Result.andThen_ok, e, Sem.run_pure]
/-- Element i of a slice. -/
theorem ex_at {T : TypeId} {E : TypeId} {b o l c : Nat} {i : Nat} {sz q : Nat} (hT : P.underlying T = some (.slice E)) (hs : (sizeOf E).run P w = .ok sz w) {A : Option Addr} (hx : ρ x = .slice A l c) (hA : A = some ⟨b, o, none⟩) (hy : ρ y = .int .i64 i) (hi : i < l) (hq : o + i * sz = q) :
    (execOp ρ ⟨d, .indexAddr T x y, t, pos, after, guard⟩).run P w = .ok (.value (.pointer (some ⟨b, q, none⟩))) w := by
  subst hq
  subst hA
  have hadd : (⟨b, o, none⟩ : Addr).add (i * sz) = ⟨b, o + i * sz, none⟩ := Addr.add_mid b o (i * sz)
  have hlt : (0 : Int) ≤ (i : Int) ∧ (i : Int) < (l : Int) := by omega
  simp [execOp, hx, hy, Instr.indexAt, asIntOf, Sem.run_bind, run_underlying hT w, hs, hadd]
  intro h; omega
/-- A field of what lies at an address. -/
theorem ex_field {p q : Addr} {f : Nat} (hx : ρ x = .pointer (some p)) (hf : ∀ w, (Instr.fieldAt X (.pointer (some p)) f).run P w = .ok (.pointer (some q)) w) : (execOp ρ ⟨d, .fieldAddr X x f, t, pos, after, guard⟩).run P w = .ok (.value (.pointer (some q))) w := by
  simp [execOp, hx, hf]
theorem ex_build {parts : Array (Nat × Operand)} {cells : Array Value} {ps : Array (Nat × Value)} (hp : (parts.map fun (i, x) => (i, ρ x)) = ps) (h : (Instr.build X ps).run P w = .ok (.agg cells) w) : (execOp ρ ⟨d, .build X parts, t, pos, after, guard⟩).run P w = .ok (.value (.agg cells)) w := by
  subst hp
  simp only [execOp, Sem.run_bind, h, Result.andThen_ok, Sem.run_pure]
/-- x[l:h] -/
theorem ex_slice {E : TypeId} {A : Option Addr} {n c : Nat} {lo hi : Option Operand} {l h : Nat} {sz : Nat} {v : Value} (hX : P.underlying X = some (.slice E)) (hx : ρ x = .slice A n c) (hsz : (sizeOf E).run P w = .ok sz w)
    (hl : (lo = none ∧ l = 0) ∨ ∃ q, lo = some q ∧ ρ q = .int .i64 l) (hh : (hi = none ∧ h = n) ∨ ∃ q, hi = some q ∧ ρ q = .int .i64 h) (h1 : l ≤ h) (h2 : h ≤ c)
    (hv : v = .slice (if c = l then A else A.map (·.add (l * sz))) (h - l) (c - l)) : (execOp ρ ⟨d, .slice X x lo hi none, t, pos, after, guard⟩).run P w = .ok (.value v) w := by
  subst hv
  have hb : (Instr.sliceBounds true n c (lo.map ρ) (hi.map ρ) none).run P w = .ok (l, h, c) w := by
    have b1 : ∀ (z y : Nat) (code : BoundsCode), z ≤ y → (Instr.sliceBound (.int .i64 z) y code).run P w = .ok z w := by
      intro z y code hzy
      have : (0 : Int) ≤ (z : Int) ∧ (z : Int) ≤ (y : Int) := by omega
      simp [Instr.sliceBound, asIntOf, this]
    rcases hl with ⟨rfl, rfl⟩ | ⟨q, rfl, hq⟩ <;> rcases hh with ⟨rfl, rfl⟩ | ⟨q', rfl, hq'⟩
    · simp [Instr.sliceBounds]
    · simp [Instr.sliceBounds, hq', b1 _ _ _ h2]
    · simp [Instr.sliceBounds, hq, b1 _ _ _ h1]
    · simp [Instr.sliceBounds, hq', hq, b1 _ _ _ h2, b1 _ _ _ h1]
  have hs : (Instr.sliceAt X (.slice A n c) (lo.map ρ) (hi.map ρ) none).run P w = .ok (.slice (if c = l then A else A.map (·.add (l * sz))) (h - l) (c - l)) w := by
    simp [Instr.sliceAt, Sem.run_bind, run_underlying hX w, Instr.slice, hb, hsz]
  simp [execOp, hx, hs]
end
/-! Memory. -/
section
variable {P : Program} {w0 w w' : World} {F0 F : Fz} {L : List Blk} {M : List RowP}
theorem load1 {T : TypeId} {b o : Nat} {v : Value} (hT : (isAgg T).run P w = .ok false w) (hc : w.cell? ⟨b, o, none⟩ = some v) : (loadVar T ⟨b, o, none⟩).run P w = .ok v w := by
  simp [loadVar, Sem.run_bind, hT, hc]
theorem loadN {T : TypeId} {b o : Nat} {cs : List Value} {d : TypeDesc} (hu : P.underlying T = some d) (hd : d.isRow = true) (hi : (P.info? T).map (·.size) = some cs.length) (hc : w.rangeAt b o cs) : (loadVar T ⟨b, o, none⟩).run P w = .ok (.agg cs.toArray) w := run_loadVar_mid w b o T cs d hc hu hd hi
theorem storeV {T : TypeId} {b o : Nat} {v : Value} (hi : (P.info? T).map (·.size) = some v.cells.size) (ht : w.there b o v.cells.size) (h1 : v.cells.all (·.oneCell') = true) : (storeVar T ⟨b, o, none⟩ v).run P w = .ok () (w.setCells b o v.cells.toList) := by
  have := run_storeVar_mid w b o T v.cells ht hi h1
  unfold storeVar at *
  exact this
/-- A new block. -/
theorem ex_alloc {ρ : Operand → Value} {d : Option Tmp} {t T : TypeId} {pos : String} {after : Array Edge} {guard : Option (Nat × Bool)} {z : Value} (hz : (zeroValue T).run P w = .ok z w) :
    (execOp ρ ⟨d, .alloc T, t, pos, after, guard⟩).run P w = .ok (.value (.pointer (some ⟨w.heap.size, 0, none⟩))) (w.alloc (.cells z.cells T)) := by
  simp only [execOp, Instr.alloc, Sem.run_bind, hz, Result.andThen_ok]
  rfl
theorem ex_box {ρ : Operand → Value} {d : Option Tmp} {t T : TypeId} {x : Operand} {pos : String} {after : Array Edge} {guard : Option (Nat × Bool)} {v : Value} (hx : ρ x = v) :
    (execOp ρ ⟨d, .box T x, t, pos, after, guard⟩).run P w = .ok (.value (.pointer (some ⟨w.heap.size, 0, none⟩))) (w.alloc (.cells v.cells T)) := by
  subst hx
  simp only [execOp, Instr.box, Sem.run_bind]
  rfl
theorem ex_lit {ρ : Operand → Value} {d : Option Tmp} {t T E : TypeId} {n : Nat} {parts : Array (Nat × Operand)} {ps : Array (Nat × Value)} {pos : String} {after : Array Edge} {guard : Option (Nat × Bool)} {cells : Array Value} (hp : (parts.map fun (i, x) => (i, ρ x)) = ps)
    (h : ∀ w, (Instr.buildSlice T n ps).run P w = .ok (.slice (some ⟨w.heap.size, 0, none⟩) n n) (w.alloc (.cells cells E))) :
    (execOp ρ ⟨d, .buildSlice T n parts, t, pos, after, guard⟩).run P w = .ok (.value (.slice (some ⟨w.heap.size, 0, none⟩) n n)) (w.alloc (.cells cells E)) := by
  subst hp
  simp only [execOp, Sem.run_bind, h, Result.andThen_ok, Sem.run_pure]
/-- The step that makes a block of the call's own. -/
theorem stNew {ops : Array Oper} {Q : Exit → Act → World → Prop} {a : Act} {rest : List Oper} {o : Oper} {cs : Array Value} {T : TypeId} {v : Nat → Value} (S : St w0 F0 w F L M) (hw : Region.wanted o (yielded ops a.tmps) = true)
    (hr : (execOp a.eval o).run P w = .ok (.value (v w.heap.size)) (w.alloc (.cells cs T)))
    (h : ∀ n w', St w0 F0 w' F (⟨n, cs.toList, T⟩ :: L) M → WL P ops Q rest (a.put o.dst (v n)) w') : WL P ops Q (o :: rest) a w :=
  do_ hw _ hr (h _ _ (S.alloc cs T))
theorem stStore {ops : Array Oper} {Q : Exit → Act → World → Prop} {a : Act} {rest : List Oper} {d : Option Tmp} {t T T' : TypeId} {x y : Operand} {pos : String} {after : Array Edge} {guard : Option (Nat × Bool)} {i n j : Nat} {c : List Value} {v : Value} (S : St w0 F0 w F L M)
    (hw : Region.wanted ⟨d, .store T x y, t, pos, after, guard⟩ (yielded ops a.tmps) = true) (hx : a.eval x = .pointer (some ⟨n, j, none⟩)) (hy : a.eval y = v) (hL : L[i]? = some ⟨n, c, T'⟩)
    (hi : (P.info? T).map (·.size) = some v.cells.size) (h1 : v.cells.all (·.oneCell') = true) (hl : j + v.cells.size ≤ c.length)
    (h : ∀ w', St w0 F0 w' F (L.set i ⟨n, splice c j v.cells.toList, T'⟩) M → WL P ops Q rest (a.put d undef) w') : WL P ops Q (⟨d, .store T x y, t, pos, after, guard⟩ :: rest) a w := by
  have hs := storeV (P := P) (T := T) (v := v) hi (S.there hL j v.cells.size hl) h1
  refine doS hw (ex_store hx (by rw [hy]; exact hs)) (h _ (S.store hL j v.cells.toList (by simpa using hl)))
/-- A call that makes something. -/
theorem stGives {ops : Array Oper} {Q : Exit → Act → World → Prop} {a : Act} {rest : List Oper} {o : Oper} {k : FuncId} {vs : Array Value} {R : Fz → Value → Prop} (S : St w0 F0 w F L M) (hw : Region.wanted o (yielded ops a.tmps) = true)
    (hr : (execOp a.eval o).run P w = .ok (.enter k vs) w) (hc : Calls P k vs w (Gives w F R))
    (h : ∀ v w' F', St w0 F0 w' F' L M → Le F F' → R F' v → WL P ops Q rest (a.put o.dst v) w') : WL P ops Q (o :: rest) a w :=
  doC hw hr hc fun e w' ⟨v, F', he, g, hR⟩ => ⟨v, he, h v w' F' (S.gives g) (g.le S.sat) hR⟩
/-- A call that hands back this. -/
theorem stTells {ops : Array Oper} {Q : Exit → Act → World → Prop} {a : Act} {rest : List Oper} {o : Oper} {k : FuncId} {vs : Array Value} {v : Value} (S : St w0 F0 w F L M) (hw : Region.wanted o (yielded ops a.tmps) = true)
    (hr : (execOp a.eval o).run P w = .ok (.enter k vs) w) (hc : Calls P k vs w (Tells w v))
    (h : ∀ w', St w0 F0 w' F L M → WL P ops Q rest (a.put o.dst v) w') : WL P ops Q (o :: rest) a w :=
  doC hw hr hc fun e w' ⟨he, hb⟩ => ⟨v, he, h w' (S.tells hb)⟩
theorem tells_same {k : FuncId} {vs : Array Value} {v : Value} (h : Calls P k vs w fun e w' => e = .returned v ∧ w' = w) : Calls P k vs w (Tells w v) := h.mono fun e w' ⟨he, hw⟩ => ⟨he, by subst hw; exact Below.refl _ _⟩
/-- What lies on top of the call's own blocks is appended to a row. -/
theorem stPush {ops : Array Oper} {Q : Exit → Act → World → Prop} {a : Act} {rest : List Oper} {d : Option Tmp} {t T E : TypeId} {x s : Operand} {pos : String} {after : Array Edge} {guard : Option (Nat × Bool)} {α : Type} {k base : Nat} {R : Fz → List Value → α → Prop} {hR : ∀ F F' x p, Le F F' → R F x p → R F' x p}
    {v : Value} {l : List α} {p : α} {i r n cp : Nat} {cs : List Value} {T' : TypeId} (S : St w0 F0 w F L M) (hw : Region.wanted ⟨d, .call ⟨.builtin .append, #[s, x], #[T, T]⟩, t, pos, after, guard⟩ (yielded ops a.tmps) = true)
    (inf : TypeInfo) (z : Value) (bytes : Nat) (ht : P.underlying T = some (.slice E)) (hi : P.info? E = some inf) (hz : inf.zero = some z) (hsize : inf.size = k) (hby : inf.bytes = bytes) (hzs : z.cells.size = k) (hsz : 0 < k)
    (hs : a.eval s = v) (hx : a.eval x = .slice (some ⟨n, 0, none⟩) 1 cp) (hM : M[r]? = some (ownP k R hR E base v l)) (hL : L[i]? = some ⟨n, cs, T'⟩) (hl : cs.length = k) (h1 : ∀ u ∈ cs, u.oneCell' = true) (hp : R F cs p)
    (hb : w0.heap.size ≤ base) (hb2 : base ≤ w.heap.size) (h63 : l.length + 1 ≤ maxLen) (hbytes : (l.length + 1) * bytes ≤ 140737488355328)
    (h : ∀ v' w', St w0 F0 w' F L (M.set r (ownP k R hR E base v' (l ++ [p]))) → v' ≠ .slice none 0 0 → WL P ops Q rest (a.put d v') w') : WL P ops Q (⟨d, .call ⟨.builtin .append, #[s, x], #[T, T]⟩, t, pos, after, guard⟩ :: rest) a w := by
  obtain ⟨el, e1, e2, e3⟩ := (S.own hM).ex
  have hbk := (S.blk _ (St.mem hL)).1
  obtain ⟨g, cap, w', hrun, h2, h3, h4, h5⟩ := run_append_lies w T t base E inf z k bytes ht hi hz hsize hby hzs hsz v l.length el.flatten e1 ⟨n, 0, none⟩ 1 cp cs (by rw [hl]; omega) (fun j u hu => World.news_of_block hbk j u (by simpa using hu)) h1 (by omega) h63 hbytes hb2 w.heap.size rfl (P := P)
  have hout : ∀ g', (Value.slice (some ⟨g, 0, none⟩) (l.length + 1) cap).ownBlock = some g' → F g' = none := by
    intro g' hg'
    cases hg'
    rcases h4 with h4 | h4
    · exact (S.own hM).out _ h4
    · subst h4; exact S.sat.out (Nat.le_refl _)
  have hown : Own k R E base w' F (.slice (some ⟨g, 0, none⟩) (l.length + 1) cap) (l ++ [p]) := by
    refine ⟨⟨el ++ [cs], ?_, e2.append ⟨hp, trivial⟩, fun y hy => ?_⟩, hout⟩
    · rw [List.flatten_append, List.length_append]
      simpa using h2
    · rcases List.mem_append.1 hy with hy | hy
      · exact e3 y hy
      · rw [List.mem_singleton.1 hy]; exact hl
  refine do_ hw (.slice (some ⟨g, 0, none⟩) (l.length + 1) cap) ?_ (h _ w' (S.grown hM hb h3 hown (fun g' hg' => ?_)) (by simp))
  · simp only [execOp, resolve, invoke, builtin, Sem.run_bind, Sem.run_pure, Result.andThen_ok, List.map_toArray, List.map_cons, List.map_nil, hs, hx, hrun]
  · cases hg'
    rcases h4 with h4 | h4
    · exact .inl h4
    · exact .inr (Nat.le_of_eq h4.symm)
end
theorem sub_range {c cs : List Value} (j : Nat) (h : (c.drop j).take cs.length = cs) : ∀ (k : Nat) v, cs[k]? = some v → c[j + k]? = some v := by
  intro k v hk
  rw [← h, List.getElem?_take] at hk
  split at hk
  · rwa [List.getElem?_drop] at hk
  · cases hk
section
variable {w : World} {b o : Nat} {x y z u : Value}
theorem range1 (h0 : w.cell? ⟨b, o, none⟩ = some x) : w.rangeAt b o [x] := fun j v hv => by
  match j, hv with
  | 0, hv => cases hv; exact h0
theorem range2 (h0 : w.cell? ⟨b, o, none⟩ = some x) (h1 : w.cell? ⟨b, o + 1, none⟩ = some y) : w.rangeAt b o [x, y] := fun j v hv => by
  match j, hv with
  | 0, hv => cases hv; exact h0
  | 1, hv => cases hv; exact h1
theorem range3 (h0 : w.cell? ⟨b, o, none⟩ = some x) (h1 : w.cell? ⟨b, o + 1, none⟩ = some y) (h2 : w.cell? ⟨b, o + 2, none⟩ = some z) : w.rangeAt b o [x, y, z] := fun j v hv => by
  match j, hv with
  | 0, hv => cases hv; exact h0
  | 1, hv => cases hv; exact h1
  | 2, hv => cases hv; exact h2
theorem range4 (h0 : w.cell? ⟨b, o, none⟩ = some x) (h1 : w.cell? ⟨b, o + 1, none⟩ = some y) (h2 : w.cell? ⟨b, o + 2, none⟩ = some z) (h3 : w.cell? ⟨b, o + 3, none⟩ = some u) : w.rangeAt b o [x, y, z, u] := fun j v hv => by
  match j, hv with
  | 0, hv => cases hv; exact h0
  | 1, hv => cases hv; exact h1
  | 2, hv => cases hv; exact h2
  | 3, hv => cases hv; exact h3
theorem slice_zero {A : Option Addr} {c sz n l c' : Nat} (h : l = n := by rfl) (hc : c' = c := by rfl) : (Value.slice A l c') = .slice (if c = 0 then A else A.map (·.add (0 * sz))) (n - 0) (c - 0) := by
  subst h; subst hc
  split
  · rfl
  · have : A.map (·.add (0 * sz)) = A := by cases A <;> simp [Addr.add]
    rw [this]; rfl
theorem slice_at {b o c sz l n n' c' o' : Nat} (h : l < c) (hn : n - l = n') (hc : c - l = c') (ho : o + l * sz = o') : (Value.slice (some ⟨b, o', none⟩) n' c') = .slice (if c = l then some ⟨b, o, none⟩ else (some ⟨b, o, none⟩ : Option Addr).map (·.add (l * sz))) (n - l) (c - l) := by
  subst hn; subst hc; subst ho
  rw [if_neg (by omega)]
  show _ = Value.slice (some (Addr.add ⟨b, o, none⟩ (l * sz))) _ _
  rw [Addr.add_mid]
end
section
variable {P : Program} {fn : Func} {tmps : Array Value} {w : World}
theorem asAddr_ptr (p : Addr) : (asAddr (.pointer (some p))).run P w = .ok p w := rfl
theorem res_c {c T : Nat} {v : Value} (h : fn.results = #[.cell c T]) (h1 : ∃ p, tmps.getD c undef = .pointer (some p) ∧ (loadVar T p).run P w = .ok v w) : (results fn tmps).run P w = .ok v w := by
  obtain ⟨p, h1, h2⟩ := h1
  rw [Array.getD_eq_getD_getElem?] at h1
  simp [results, h, h1, asAddr_ptr, h2]
theorem res_ct {c T t : Nat} {v : Value} (h : fn.results = #[.cell c T, .tmp t]) (h1 : ∃ p, tmps.getD c undef = .pointer (some p) ∧ (loadVar T p).run P w = .ok v w) {u : Value} (h2 : tmps.getD t undef = u) : (results fn tmps).run P w = .ok (.tuple #[v, u]) w := by
  obtain ⟨p, h1, h3⟩ := h1
  subst h2
  rw [Array.getD_eq_getD_getElem?] at h1
  simp [results, h, h1, asAddr_ptr, h3]
theorem res_ctt {c T t s : Nat} {v : Value} (h : fn.results = #[.cell c T, .tmp t, .tmp s]) (h1 : ∃ p, tmps.getD c undef = .pointer (some p) ∧ (loadVar T p).run P w = .ok v w) {u x : Value} (h2 : tmps.getD t undef = u) (h4 : tmps.getD s undef = x) : (results fn tmps).run P w = .ok (.tuple #[v, u, x]) w := by
  obtain ⟨p, h1, h3⟩ := h1
  subst h2; subst h4
  rw [Array.getD_eq_getD_getElem?] at h1
  simp [results, h, h1, asAddr_ptr, h3]
theorem res_tct {c T t s : Nat} {v : Value} (h : fn.results = #[.tmp t, .cell c T, .tmp s]) {u x : Value} (h2 : tmps.getD t undef = u) (h1 : ∃ p, tmps.getD c undef = .pointer (some p) ∧ (loadVar T p).run P w = .ok v w) (h4 : tmps.getD s undef = x) : (results fn tmps).run P w = .ok (.tuple #[u, v, x]) w := by
  obtain ⟨p, h1, h3⟩ := h1
  subst h2; subst h4
  rw [Array.getD_eq_getD_getElem?] at h1
  simp [results, h, h1, asAddr_ptr, h3]
theorem res_cct {c T c' T' s : Nat} {v v' : Value} (h : fn.results = #[.cell c T, .cell c' T', .tmp s]) {x : Value} (h1 : ∃ p, tmps.getD c undef = .pointer (some p) ∧ (loadVar T p).run P w = .ok v w) (h2 : ∃ p, tmps.getD c' undef = .pointer (some p) ∧ (loadVar T' p).run P w = .ok v' w) (h4 : tmps.getD s undef = x) : (results fn tmps).run P w = .ok (.tuple #[v, v', x]) w := by
  obtain ⟨p, h1, h3⟩ := h1
  obtain ⟨p', h2, h5⟩ := h2
  subst h4
  rw [Array.getD_eq_getD_getElem?] at h1 h2
  simp [results, h, h1, h2, asAddr_ptr, h3, h5]
theorem res_ (h : fn.results = #[]) : (results fn tmps).run P w = .ok (.tuple #[]) w := results_none h _ _ _
theorem res_t {t : Nat} {v : Value} (h : fn.results = #[.tmp t]) (h1 : tmps.getD t undef = v) : (results fn tmps).run P w = .ok v w := by
  subst h1; exact results_tmp h _ _ _
theorem res_tt {t s : Nat} {u v : Value} (h : fn.results = #[.tmp t, .tmp s]) (h1 : tmps.getD t undef = u) (h2 : tmps.getD s undef = v) : (results fn tmps).run P w = .ok (.tuple #[u, v]) w := by
  subst h1; subst h2; exact results_tmp2 h _ _ _
theorem res_ttt {t s r : Nat} {u v x : Value} (h : fn.results = #[.tmp t, .tmp s, .tmp r]) (h1 : tmps.getD t undef = u) (h2 : tmps.getD s undef = v) (h3 : tmps.getD r undef = x) : (results fn tmps).run P w = .ok (.tuple #[u, v, x]) w := by
  subst h1; subst h2; subst h3; exact results_tmp3 h _ _ _
theorem pureAt_of {o : Oper} {a : Act} {v : Value} (h : (execOp a.eval o).run P w = .ok (.value v) w) : PureAt P o a w v := by unfold PureAt; rw [h]; exact ⟨rfl, rfl⟩
theorem does_call {o : Oper} {a : Act} {Φ : Value → World → Prop} {k : FuncId} {vs : Array Value} (h : (execOp a.eval o).run P w = .ok (.enter k vs) w) (hc : Calls P k vs w (CallPost Φ)) : Does P o a w Φ := by unfold Does; rw [h]; exact ⟨rfl, hc⟩
end
/-- What the slots of a frame hold. -/
def slotF : List Value → Nat → Value
  | [], _ => undef
  | v :: _, 0 => v
  | _ :: l, n + 1 => slotF l n
/-- A loop whose measure is told beside its frame; what follows is not looked at. -/
theorem exists_min {p : Nat → Prop} (h : ∃ n, p n) : ∃ n, p n ∧ ∀ m, p m → n ≤ m := by
  obtain ⟨n, hn⟩ := h
  induction n using Nat.strongRecOn with
  | _ n ih =>
    by_cases hx : ∃ m, m < n ∧ p m
    · obtain ⟨m, h1, h2⟩ := hx; exact ih m h1 h2
    · exact ⟨n, hn, fun m hm => Nat.le_of_not_lt fun h => hx ⟨m, h, hm⟩⟩
open Classical in
noncomputable def leastOf (p : Nat → Prop) : Nat := if h : ∃ n, p n then (exists_min h).choose else 0
theorem leastOf_spec {p : Nat → Prop} (h : ∃ n, p n) : p (leastOf p) ∧ ∀ m, p m → leastOf p ≤ m := by
  unfold leastOf; rw [dif_pos h]; exact (exists_min h).choose_spec
theorem wp_loop_g {P : Program} {c : Code} {Q : Exit → Act → World → Prop} {a : Act} {w : World} (I : Nat → Act → World → Prop) (n : Nat) (h0 : I n a w)
    (round : ∀ n a w, I n a w → ∀ K : Act → World → Prop, (∀ m a' w', m < n → I m a' w' → K a' w') → c.wp P (Exit.then K Q) a w) : (Code.loop c).wp P Q a w :=
  wp_loop (fun a w => ∃ n, I n a w) (fun a w => leastOf fun n => I n a w) ⟨n, h0⟩ fun a w h => by
    have hs := leastOf_spec h
    refine round _ a w hs.1 _ fun m a' w' hm hI => ⟨⟨m, hI⟩, ?_⟩
    exact Nat.lt_of_le_of_lt ((leastOf_spec (p := fun n => I n a' w') ⟨m, hI⟩).2 m hI) hm
section
variable {ρ : Operand → Value}
theorem map0 : (#[] : Array Operand).map ρ = #[] := by simp
theorem bmap0 : ((#[] : Array (Nat × Operand)).map fun (i, x) => (i, ρ x)) = #[] := by simp
theorem map1 {x0 : Operand} {v0 : Value} (h0 : ρ x0 = v0) : #[x0].map ρ = #[v0] := by simp [h0]
theorem bmap1 {x0 : Operand} {v0 : Value} {i0 : Nat} (h0 : ρ x0 = v0) : (#[(i0, x0)].map fun ((i, x) : Nat × Operand) => (i, ρ x)) = #[(i0, v0)] := by simp [h0]
theorem map2 {x0 x1 : Operand} {v0 v1 : Value} (h0 : ρ x0 = v0) (h1 : ρ x1 = v1) : #[x0, x1].map ρ = #[v0, v1] := by simp [h0, h1]
theorem bmap2 {x0 x1 : Operand} {v0 v1 : Value} {i0 i1 : Nat} (h0 : ρ x0 = v0) (h1 : ρ x1 = v1) : (#[(i0, x0), (i1, x1)].map fun ((i, x) : Nat × Operand) => (i, ρ x)) = #[(i0, v0), (i1, v1)] := by simp [h0, h1]
theorem map3 {x0 x1 x2 : Operand} {v0 v1 v2 : Value} (h0 : ρ x0 = v0) (h1 : ρ x1 = v1) (h2 : ρ x2 = v2) : #[x0, x1, x2].map ρ = #[v0, v1, v2] := by simp [h0, h1, h2]
theorem bmap3 {x0 x1 x2 : Operand} {v0 v1 v2 : Value} {i0 i1 i2 : Nat} (h0 : ρ x0 = v0) (h1 : ρ x1 = v1) (h2 : ρ x2 = v2) : (#[(i0, x0), (i1, x1), (i2, x2)].map fun ((i, x) : Nat × Operand) => (i, ρ x)) = #[(i0, v0), (i1, v1), (i2, v2)] := by simp [h0, h1, h2]
theorem map4 {x0 x1 x2 x3 : Operand} {v0 v1 v2 v3 : Value} (h0 : ρ x0 = v0) (h1 : ρ x1 = v1) (h2 : ρ x2 = v2) (h3 : ρ x3 = v3) : #[x0, x1, x2, x3].map ρ = #[v0, v1, v2, v3] := by simp [h0, h1, h2, h3]
theorem bmap4 {x0 x1 x2 x3 : Operand} {v0 v1 v2 v3 : Value} {i0 i1 i2 i3 : Nat} (h0 : ρ x0 = v0) (h1 : ρ x1 = v1) (h2 : ρ x2 = v2) (h3 : ρ x3 = v3) : (#[(i0, x0), (i1, x1), (i2, x2), (i3, x3)].map fun ((i, x) : Nat × Operand) => (i, ρ x)) = #[(i0, v0), (i1, v1), (i2, v2), (i3, v3)] := by simp [h0, h1, h2, h3]
theorem map5 {x0 x1 x2 x3 x4 : Operand} {v0 v1 v2 v3 v4 : Value} (h0 : ρ x0 = v0) (h1 : ρ x1 = v1) (h2 : ρ x2 = v2) (h3 : ρ x3 = v3) (h4 : ρ x4 = v4) : #[x0, x1, x2, x3, x4].map ρ = #[v0, v1, v2, v3, v4] := by simp [h0, h1, h2, h3, h4]
theorem bmap5 {x0 x1 x2 x3 x4 : Operand} {v0 v1 v2 v3 v4 : Value} {i0 i1 i2 i3 i4 : Nat} (h0 : ρ x0 = v0) (h1 : ρ x1 = v1) (h2 : ρ x2 = v2) (h3 : ρ x3 = v3) (h4 : ρ x4 = v4) : (#[(i0, x0), (i1, x1), (i2, x2), (i3, x3), (i4, x4)].map fun ((i, x) : Nat × Operand) => (i, ρ x)) = #[(i0, v0), (i1, v1), (i2, v2), (i3, v3), (i4, v4)] := by simp [h0, h1, h2, h3, h4]
theorem map6 {x0 x1 x2 x3 x4 x5 : Operand} {v0 v1 v2 v3 v4 v5 : Value} (h0 : ρ x0 = v0) (h1 : ρ x1 = v1) (h2 : ρ x2 = v2) (h3 : ρ x3 = v3) (h4 : ρ x4 = v4) (h5 : ρ x5 = v5) : #[x0, x1, x2, x3, x4, x5].map ρ = #[v0, v1, v2, v3, v4, v5] := by simp [h0, h1, h2, h3, h4, h5]
theorem bmap6 {x0 x1 x2 x3 x4 x5 : Operand} {v0 v1 v2 v3 v4 v5 : Value} {i0 i1 i2 i3 i4 i5 : Nat} (h0 : ρ x0 = v0) (h1 : ρ x1 = v1) (h2 : ρ x2 = v2) (h3 : ρ x3 = v3) (h4 : ρ x4 = v4) (h5 : ρ x5 = v5) : (#[(i0, x0), (i1, x1), (i2, x2), (i3, x3), (i4, x4), (i5, x5)].map fun ((i, x) : Nat × Operand) => (i, ρ x)) = #[(i0, v0), (i1, v1), (i2, v2), (i3, v3), (i4, v4), (i5, v5)] := by simp [h0, h1, h2, h3, h4, h5]
theorem map7 {x0 x1 x2 x3 x4 x5 x6 : Operand} {v0 v1 v2 v3 v4 v5 v6 : Value} (h0 : ρ x0 = v0) (h1 : ρ x1 = v1) (h2 : ρ x2 = v2) (h3 : ρ x3 = v3) (h4 : ρ x4 = v4) (h5 : ρ x5 = v5) (h6 : ρ x6 = v6) : #[x0, x1, x2, x3, x4, x5, x6].map ρ = #[v0, v1, v2, v3, v4, v5, v6] := by simp [h0, h1, h2, h3, h4, h5, h6]
theorem bmap7 {x0 x1 x2 x3 x4 x5 x6 : Operand} {v0 v1 v2 v3 v4 v5 v6 : Value} {i0 i1 i2 i3 i4 i5 i6 : Nat} (h0 : ρ x0 = v0) (h1 : ρ x1 = v1) (h2 : ρ x2 = v2) (h3 : ρ x3 = v3) (h4 : ρ x4 = v4) (h5 : ρ x5 = v5) (h6 : ρ x6 = v6) : (#[(i0, x0), (i1, x1), (i2, x2), (i3, x3), (i4, x4), (i5, x5), (i6, x6)].map fun ((i, x) : Nat × Operand) => (i, ρ x)) = #[(i0, v0), (i1, v1), (i2, v2), (i3, v3), (i4, v4), (i5, v5), (i6, v6)] := by simp [h0, h1, h2, h3, h4, h5, h6]
theorem vmap {fs cs xs : Array Value} {os : Array Operand} {vs : Array Value} (h : os.map ρ = xs) (h2 : fs ++ xs ++ cs = vs) : fs ++ os.map ρ ++ cs = vs := by rw [h]; exact h2
end
theorem allc1 {x0 : Value} (h0 : x0.oneCell' = true) : (#[x0] : Array Value).all (·.oneCell') = true := by simp [h0]
theorem allc2 {x0 x1 : Value} (h0 : x0.oneCell' = true) (h1 : x1.oneCell' = true) : (#[x0, x1] : Array Value).all (·.oneCell') = true := by simp [h0, h1]
theorem allc3 {x0 x1 x2 : Value} (h0 : x0.oneCell' = true) (h1 : x1.oneCell' = true) (h2 : x2.oneCell' = true) : (#[x0, x1, x2] : Array Value).all (·.oneCell') = true := by simp [h0, h1, h2]
theorem allc4 {x0 x1 x2 x3 : Value} (h0 : x0.oneCell' = true) (h1 : x1.oneCell' = true) (h2 : x2.oneCell' = true) (h3 : x3.oneCell' = true) : (#[x0, x1, x2, x3] : Array Value).all (·.oneCell') = true := by simp [h0, h1, h2, h3]
theorem allc5 {x0 x1 x2 x3 x4 : Value} (h0 : x0.oneCell' = true) (h1 : x1.oneCell' = true) (h2 : x2.oneCell' = true) (h3 : x3.oneCell' = true) (h4 : x4.oneCell' = true) : (#[x0, x1, x2, x3, x4] : Array Value).all (·.oneCell') = true := by simp [h0, h1, h2, h3, h4]
theorem allc6 {x0 x1 x2 x3 x4 x5 : Value} (h0 : x0.oneCell' = true) (h1 : x1.oneCell' = true) (h2 : x2.oneCell' = true) (h3 : x3.oneCell' = true) (h4 : x4.oneCell' = true) (h5 : x5.oneCell' = true) : (#[x0, x1, x2, x3, x4, x5] : Array Value).all (·.oneCell') = true := by simp [h0, h1, h2, h3, h4, h5]
theorem allc7 {x0 x1 x2 x3 x4 x5 x6 : Value} (h0 : x0.oneCell' = true) (h1 : x1.oneCell' = true) (h2 : x2.oneCell' = true) (h3 : x3.oneCell' = true) (h4 : x4.oneCell' = true) (h5 : x5.oneCell' = true) (h6 : x6.oneCell' = true) : (#[x0, x1, x2, x3, x4, x5, x6] : Array Value).all (·.oneCell') = true := by simp [h0, h1, h2, h3, h4, h5, h6]
theorem allc8 {x0 x1 x2 x3 x4 x5 x6 x7 : Value} (h0 : x0.oneCell' = true) (h1 : x1.oneCell' = true) (h2 : x2.oneCell' = true) (h3 : x3.oneCell' = true) (h4 : x4.oneCell' = true) (h5 : x5.oneCell' = true) (h6 : x6.oneCell' = true) (h7 : x7.oneCell' = true) : (#[x0, x1, x2, x3, x4, x5, x6, x7] : Array Value).all (·.oneCell') = true := by simp [h0, h1, h2, h3, h4, h5, h6, h7]
theorem wanted_no {o oj : Oper} {ops : Array Oper} {tmps : Array Value} {j d : Nat} {b c : Bool} (hg : o.guard = some (j, b)) (hj : ops[j]? = some oj) (hd : oj.dst = some d) (hv : tmps.getD d undef = .bool c) (hc : c ≠ b) : Region.wanted o (yielded ops tmps) = false := by
  rw [Array.getD_eq_getD_getElem?] at hv
  have e : tmps[d]? = some (.bool c) := by
    cases h : tmps[d]? with
    | none => rw [h] at hv; cases hv
    | some x => rw [h] at hv; cases hv; rfl
  simp [Region.wanted, hg, yielded, hj, hd, e, hc]
section
variable {P : Program} {ops : Array Oper} {md : Region.Mode} {C : World → Prop} {Sp : Nat → OpSpec} {Lq : Act → Vals → Prop} {o : Oper} {l : List Oper} {k : Nat} {a : Act} {Vs : Vals}
theorem gw_nil (h : Lq a Vs) : GW P md ops C Sp Lq [] k a Vs := ⟨wpG_nil h⟩
theorem gw_pure (hw : Region.wanted o (yielded ops a.tmps) = true) (hs : Sp k = .pure) (v : Value) (h : ∀ w, C w → PureAt P o a w v) (hn : GW P md ops C Sp Lq l (k + 1) (a.put o.dst v) Vs) : GW P md ops C Sp Lq (o :: l) k a Vs := ⟨wpG_pure hw hs v h hn.out⟩
theorem gw_const (hw : Region.wanted o (yielded ops a.tmps) = true) {v : Value} (hs : Sp k = .const v) (h : ∀ w, C w → FactsAt md ops Sp k Vs w → Does P o a w (IsPost v w)) (hn : GW P md ops C Sp Lq l (k + 1) (a.put o.dst v) Vs) : GW P md ops C Sp Lq (o :: l) k a Vs := ⟨wpG_const hw hs h hn.out⟩
theorem gw_rel (hw : Region.wanted o (yielded ops a.tmps) = true) {R : Value → World → Prop} (hs : Sp k = .rel R) (h : ∀ w, C w → FactsAt md ops Sp k Vs w → Does P o a w (RelPost R w)) (hn : ∀ v, GW P md ops C Sp Lq l (k + 1) (a.put o.dst v) (upd Vs k v)) : GW P md ops C Sp Lq (o :: l) k a Vs := ⟨wpG_rel hw hs h fun v => (hn v).out⟩
theorem gw_skip (hw : Region.wanted o (yielded ops a.tmps) = false) (hn : GW P md ops C Sp Lq l (k + 1) (a.put o.dst undef) Vs) : GW P md ops C Sp Lq (o :: l) k a Vs := ⟨wpG_skip hw hn.out⟩
theorem region_gw {id : Nat} {Q : Exit → Act → World → Prop} {a : Act} {W : World} {l : List Oper} (F : Fz) (n : Nat) (L : List (Nat × Mark)) (hm : P.follows .mixedOrders = true) (hB : Region.lexTailB .any l.toArray n = true)
    (h : GW P .any l.toArray (fun w' => Below W.heap.size W w') (specOf W F L) (fun a' Vs => ∀ w', Below W.heap.size W w' → Facts (specOf W F L) Vs w' → WL P l.toArray Q (l.drop n) a' w') (l.take n) 0 a (fun _ => none)) : (Code.region id l.toArray true).wp P Q a W :=
  wp_region_made F n L hm hB (by
    have key : ∀ (ls : List Oper) (k : Nat) (a : Act) (Vs : Vals), wpG P .any l.toArray (fun w' => Below W.heap.size W w') (specOf W F L) (fun a' Vs => ∀ w', Below W.heap.size W w' → Facts (specOf W F L) Vs w' → WL P l.toArray Q (l.drop n) a' w') ls k a Vs →
        wpG P .any l.toArray (fun w' => Below W.heap.size W w') (specOf W F L) (fun a' Vs => ∀ w', Below W.heap.size W w' → Facts (specOf W F L) Vs w' → wpList P l.toArray Q (l.drop n) a' w') ls k a Vs := by
      intro ls
      induction ls with
      | nil => intro k a Vs h w' h1 h2; exact (h w' h1 h2).out
      | cons o ls ih =>
        intro k a Vs h
        unfold wpG at h ⊢
        split
        · rename_i hw
          rw [if_pos hw] at h
          obtain ⟨S, hS, hv⟩ := h
          exact ⟨S, hS, fun v hv' => ih _ _ _ (hv v hv')⟩
        · rename_i hw
          rw [if_neg hw] at h
          exact ih _ _ _ h
    exact key _ _ _ _ h.out)
end
end Go.Proofs.Yteefnnnbbmbmcaa
