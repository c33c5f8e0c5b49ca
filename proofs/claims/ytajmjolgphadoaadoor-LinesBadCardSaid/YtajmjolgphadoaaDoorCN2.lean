/- Rules, plain laws and walks: FX S2 S3 S4 S5 S6 TY R2 N1 P10 P11 T1a T1b T2 T3 S7 T4a T4b T4c P12 K1 K2 K3 F1 F2 F3 F4 K4 K5 K6 S8 S9 H1 S10 T0 BY SW P35 P36 P37 -/
import Derived.Test.YtajmjolgphadoaaDoorCN1
import Derived.Maps.AppendAt
import Derived.Laws.IdiomCopy
import Derived.ArgAppend
import Derived.Lib.AppendZerosOnto
import Derived.Lib.Overlaps
import Derived.Laws.MakeOwn
import Derived.Lib.SmallJoins
import Derived.Lib.Bytealg
import Derived.OrdersHeld
import Derived.Test.YtajmjolgphadoaaDoorCards
import Derived.Test.YtajmjolgphadoaaDoorTie
import Derived.WalkKit
import Derived.ProofKit
import Derived.OpenShut
import Derived.Deep.DeepHandedRow
import Derived.Lib.LaidTab
import Derived.StillTail
import Derived.Lib.AtoiAll
import Derived.Lib.ItoaNum
import Derived.Lib.Split
namespace Go.Proofs.YtajmjolgphadoaaDoor
open Go.RowKit
set_option linter.unusedVariables false
/-- The rules' own words for what is left of a region: no unfolding looks into them. -/
structure WL (P : Program) (ops : Array Oper) (Q : Exit → Act → World → Prop) (l : List Oper) (a : Act) (w : World) : Prop where
  out : wpList P ops Q l a w
structure GW (P : Program) (md : Region.Mode) (ops : Array Oper) (C : World → Prop) (Sp : Nat → OpSpec) (Lq : Act → Vals → Prop) (l : List Oper) (k : Nat) (a : Act) (Vs : Vals) : Prop where
  out : wpG P md ops C Sp Lq l k a Vs
section
variable {P : Program} {ops : Array Oper} {Q : Exit → Act → World → Prop} {a : Act} {w w' : World} {rest : List Oper} {o : Oper}
theorem region_wl {id : Nat} {l : List Oper} (h : WL P l.toArray Q l a w) : (Code.region id l.toArray false).wp P Q a w := wp_region_lit h.out
theorem wl_nil (h : Q .normal a w) : WL P ops Q [] a w := ⟨wpList_nil h⟩
theorem do_ (hw : Region.wanted o (yielded ops a.tmps) = true) (v : Value) (hr : (execOp a.eval o).run P w = .ok (.value v) w') (h : WL P ops Q rest (a.put o.dst v) w') : WL P ops Q (o :: rest) a w := by
  refine ⟨?_⟩
  unfold wpList; rw [if_pos hw]; left; unfold Oper.wp; rw [hr]; exact h.out
theorem doS (hw : Region.wanted o (yielded ops a.tmps) = true) (hr : (execOp a.eval o).run P w = .ok .skip w') (h : WL P ops Q rest (a.put o.dst undef) w') : WL P ops Q (o :: rest) a w := by
  refine ⟨?_⟩
  unfold wpList; rw [if_pos hw]; left; unfold Oper.wp; rw [hr]; exact h.out
theorem doC {k : FuncId} {vs : Array Value} {R : Ending → World → Prop} (hw : Region.wanted o (yielded ops a.tmps) = true) (hr : (execOp a.eval o).run P w = .ok (.enter k vs) w) (hc : Calls P k vs w R)
    (h : ∀ e w', R e w' → ∃ v, e = .returned v ∧ WL P ops Q rest (a.put o.dst v) w') : WL P ops Q (o :: rest) a w := by
  refine ⟨?_⟩
  unfold wpList; rw [if_pos hw]; left; unfold Oper.wp; rw [hr]
  exact hc.mono fun e w' hR => by obtain ⟨v, rfl, hv⟩ := h e w' hR; exact hv.out
theorem doN (hw : Region.wanted o (yielded ops a.tmps) = false) (h : WL P ops Q rest (a.put o.dst undef) w) : WL P ops Q (o :: rest) a w := ⟨wpList_skip hw h.out⟩
end
section
variable {P : Program} {ρ : Operand → Value} {w : World} {d : Option Tmp} {t : TypeId} {pos : String} {after : Array Edge} {guard : Option (Nat × Bool)}
theorem ex_move (x : Operand) : (execOp ρ ⟨d, .move x, t, pos, after, guard⟩).run P w = .ok (.value (ρ x)) w := rfl
theorem ex_assign (x : Operand) : (execOp ρ ⟨d, .assign x, t, pos, after, guard⟩).run P w = .ok (.value (ρ x)) w := rfl
theorem ex_pick {c x y : Operand} {b : Bool} (h : ρ c = .bool b) : (execOp ρ ⟨d, .pick c x y, t, pos, after, guard⟩).run P w = .ok (.value (if b then ρ x else ρ y)) w := by
  simp only [execOp, h]; cases b <;> rfl
theorem ex_extract {x : Operand} {i : Nat} {vs : Array Value} {v : Value} (h : ρ x = .tuple vs) (hv : vs[i]? = some v) : (execOp ρ ⟨d, .extract x i, t, pos, after, guard⟩).run P w = .ok (.value v) w := by
  simp [execOp, h, Instr.extract, hv]
theorem ex_len {x : Operand} {T E : TypeId} {A : Option Addr} {n c : Nat} (hT : P.underlying T = some (.slice E)) (h : ρ x = .slice A n c) : (execOp ρ ⟨d, .call ⟨.builtin .len, #[x], #[T]⟩, t, pos, after, guard⟩).run P w = .ok (.value (.int .i64 n)) w := by
  simp [execOp, resolve, invoke, builtin, Builtin.len_, h, run_underlying hT w]; rfl
theorem ex_nil {x : Operand} {p : Addr} (h : ρ x = .pointer (some p)) : (execOp ρ ⟨d, .nilCheck x, t, pos, after, guard⟩).run P w = .ok (.value (.pointer (some p))) w := by
  simp only [execOp, h]; rfl
theorem ex_load {x : Operand} {T : TypeId} {p : Addr} {v : Value} (h : ρ x = .pointer (some p)) (hl : (loadVar T p).run P w = .ok v w) : (execOp ρ ⟨d, .load T x, t, pos, after, guard⟩).run P w = .ok (.value v) w := by
  simp [execOp, h, Instr.loadAt, Instr.sureAddr, hl]
theorem ex_store {x y : Operand} {T : TypeId} {p : Addr} {w' : World} (h : ρ x = .pointer (some p)) (hl : (storeVar T p (ρ y)).run P w = .ok () w') : (execOp ρ ⟨d, .store T x y, t, pos, after, guard⟩).run P w = .ok .skip w' := by
  simp [execOp, h, Instr.storeAt, Instr.sureAddr, hl]
theorem ex_fn {xs : Array Operand} {ats : Array TypeId} {k : FuncId} {vs : Array Value} (hv : xs.map ρ = vs) (hf : ρ (.func k) = .func (.func k) #[] #[]) (hk : (callFunc k vs).run P w = .ok (.enter k vs) w) : (execOp ρ ⟨d, .call ⟨.value (.func k), xs, ats⟩, t, pos, after, guard⟩).run P w = .ok (.enter k vs) w := by
  subst hv
  have : (#[] : Array Value) ++ Array.map ρ xs ++ #[] = Array.map ρ xs := by simp
  simp only [execOp, resolve, hf, Deferred.ofValue, Sem.run_bind, Sem.run_pure, Result.andThen_ok, invoke, this]
  exact hk
/-- A call through a function value. -/
theorem ex_fv {c : Operand} {xs : Array Operand} {ats : Array TypeId} {k : FuncId} {fs cs vs : Array Value} (hf : ρ c = .func (.func k) fs cs) (hv : fs ++ xs.map ρ ++ cs = vs) (hk : (callFunc k vs).run P w = .ok (.enter k vs) w) : (execOp ρ ⟨d, .call ⟨.value c, xs, ats⟩, t, pos, after, guard⟩).run P w = .ok (.enter k vs) w := by
  subst hv
  simp only [execOp, resolve, hf, Deferred.ofValue, Sem.run_bind, Sem.run_pure, Result.andThen_ok, invoke]
  exact hk
end
section
variable {P : Program} {ρ : Operand → Value} {w : World} {d : Option Tmp} {t : TypeId} {pos : String} {after : Array Edge} {guard : Option (Nat × Bool)} {x y : Operand} {X Y : TypeId} {k : IntKind} {m n : Int}
theorem run_binInt (op : BinOp) (hop : op ≠ .shl ∧ op ≠ .shr) : (binOp op X (.int k m) (.int k n)).run P w = (match op with
    | .add | .sub | .mul => Op.intArith op k m n
    | .quo | .rem => Op.intDiv op k m n
    | .and | .or | .xor | .andNot => Op.intBits op k m n
    | _ => Op.intCmp op m n).run P w := by
  cases op <;> simp [binOp] <;> simp_all
theorem ex_bin {op : BinOp} {v : Value} (hx : ρ x = .int k m) (hy : ρ y = .int k n) (h : (binOp op X (.int k m) (.int k n)).run P w = .ok v w) : (execOp ρ ⟨d, .binOp op X x y Y, t, pos, after, guard⟩).run P w = .ok (.value v) w := by
  have e : (eqGuard op X x y (.int k m) (.int k n)).run P w = .ok () w := by
    unfold eqGuard
    cases op <;> rfl
  simp only [execOp, hx, hy, Sem.run_bind, e, Result.andThen_ok, h, Sem.run_pure]
theorem ex_lss {b : Bool} (hx : ρ x = .int k m) (hy : ρ y = .int k n) (h : decide (m < n) = b) : (execOp ρ ⟨d, .binOp .lss X x y Y, t, pos, after, guard⟩).run P w = .ok (.value (.bool b)) w := by
  subst h; exact ex_bin hx hy (by rw [run_binInt _ (by simp)]; rfl)
theorem ex_gtr {b : Bool} (hx : ρ x = .int k m) (hy : ρ y = .int k n) (h : decide (n < m) = b) : (execOp ρ ⟨d, .binOp .gtr X x y Y, t, pos, after, guard⟩).run P w = .ok (.value (.bool b)) w := by
  subst h; exact ex_bin hx hy (by rw [run_binInt _ (by simp)]; rfl)
theorem ex_geq {b : Bool} (hx : ρ x = .int k m) (hy : ρ y = .int k n) (h : decide (n ≤ m) = b) : (execOp ρ ⟨d, .binOp .geq X x y Y, t, pos, after, guard⟩).run P w = .ok (.value (.bool b)) w := by
  subst h; exact ex_bin hx hy (by rw [run_binInt _ (by simp)]; rfl)
theorem ex_eql {b : Bool} (hx : ρ x = .int k m) (hy : ρ y = .int k n) (h : (m == n) = b) : (execOp ρ ⟨d, .binOp .eql X x y Y, t, pos, after, guard⟩).run P w = .ok (.value (.bool b)) w := by
  subst h; exact ex_bin hx hy (by rw [run_binInt _ (by simp)]; rfl)
theorem ex_neq {b : Bool} (hx : ρ x = .int k m) (hy : ρ y = .int k n) (h : (m != n) = b) : (execOp ρ ⟨d, .binOp .neq X x y Y, t, pos, after, guard⟩).run P w = .ok (.value (.bool b)) w := by
  subst h; exact ex_bin hx hy (by rw [run_binInt _ (by simp)]; rfl)
theorem wrap64_in {z : Int} (h1 : -9223372036854775808 ≤ z) (h2 : z ≤ 9223372036854775807) : IntKind.i64.wrap z = z := IntWalk.i64_in z ⟨h1, h2⟩
theorem ex_add {r : Int} (hx : ρ x = .int .i64 m) (hy : ρ y = .int .i64 n) (e : m + n = r) (h1 : -9223372036854775808 ≤ r) (h2 : r ≤ 9223372036854775807) : (execOp ρ ⟨d, .binOp .add X x y Y, t, pos, after, guard⟩).run P w = .ok (.value (.int .i64 r)) w := by
  subst e
  refine ex_bin hx hy ?_
  rw [run_binInt _ (by simp)]
  show Result.ok (Value.int .i64 (IntKind.i64.wrap (m + n))) w = _
  rw [wrap64_in h1 h2]
theorem ex_sub {r : Int} (hx : ρ x = .int .i64 m) (hy : ρ y = .int .i64 n) (e : m - n = r) (h1 : -9223372036854775808 ≤ r) (h2 : r ≤ 9223372036854775807) : (execOp ρ ⟨d, .binOp .sub X x y Y, t, pos, after, guard⟩).run P w = .ok (.value (.int .i64 r)) w := by
  subst e
  refine ex_bin hx hy ?_
  rw [run_binInt _ (by simp)]
  show Result.ok (Value.int .i64 (IntKind.i64.wrap (m - n))) w = _
  rw [wrap64_in h1 h2]
theorem ex_not {b c : Bool} (hx : ρ x = .bool b) (h : (!b) = c) : (execOp ρ ⟨d, .unOp .not X x, t, pos, after, guard⟩).run P w = .ok (.value (.bool c)) w := by
  subst h; simp only [execOp, hx]; rfl
/-- Element i of a slice. -/
theorem ex_at {T : TypeId} {E : TypeId} {b o l c : Nat} {i : Nat} {sz q : Nat} (hT : P.underlying T = some (.slice E)) (hs : (sizeOf E).run P w = .ok sz w) {A : Option Addr} (hx : ρ x = .slice A l c) (hA : A = some ⟨b, o, none⟩) (hy : ρ y = .int .i64 i) (hi : i < l) (hq : o + i * sz = q) :
    (execOp ρ ⟨d, .indexAddr T x y, t, pos, after, guard⟩).run P w = .ok (.value (.pointer (some ⟨b, q, none⟩))) w := by
  subst hq
  subst hA
  have hadd : (⟨b, o, none⟩ : Addr).add (i * sz) = ⟨b, o + i * sz, none⟩ := Addr.add_mid b o (i * sz)
  have hlt : (0 : Int) ≤ (i : Int) ∧ (i : Int) < (l : Int) := by omega
  simp [execOp, hx, hy, Instr.indexAt, asIntOf, Sem.run_bind, run_underlying hT w, hs, hadd]
  intro h; omega
/-- A field of what lies at an address. -/
theorem ex_field {p q : Addr} {f : Nat} (hx : ρ x = .pointer (some p)) (hf : ∀ w, (Instr.fieldAt X (.pointer (some p)) f).run P w = .ok (.pointer (some q)) w) : (execOp ρ ⟨d, .fieldAddr X x f, t, pos, after, guard⟩).run P w = .ok (.value (.pointer (some q))) w := by
  simp [execOp, hx, hf]
theorem ex_build {parts : Array (Nat × Operand)} {cells : Array Value} {ps : Array (Nat × Value)} (hp : (parts.map fun (i, x) => (i, ρ x)) = ps) (h : (Instr.build X ps).run P w = .ok (.agg cells) w) : (execOp ρ ⟨d, .build X parts, t, pos, after, guard⟩).run P w = .ok (.value (.agg cells)) w := by
  subst hp
  simp only [execOp, Sem.run_bind, h, Result.andThen_ok, Sem.run_pure]
/-- x[l:h] -/
theorem ex_slice {E : TypeId} {A : Option Addr} {n c : Nat} {lo hi : Option Operand} {l h : Nat} {sz : Nat} {v : Value} (hX : P.underlying X = some (.slice E)) (hx : ρ x = .slice A n c) (hsz : (sizeOf E).run P w = .ok sz w)
    (hl : (lo = none ∧ l = 0) ∨ ∃ q, lo = some q ∧ ρ q = .int .i64 l) (hh : (hi = none ∧ h = n) ∨ ∃ q, hi = some q ∧ ρ q = .int .i64 h) (h1 : l ≤ h) (h2 : h ≤ c)
    (hv : v = .slice (if c = l then A else A.map (·.add (l * sz))) (h - l) (c - l)) : (execOp ρ ⟨d, .slice X x lo hi none, t, pos, after, guard⟩).run P w = .ok (.value v) w := by
  subst hv
  have hb : (Instr.sliceBounds true n c (lo.map ρ) (hi.map ρ) none).run P w = .ok (l, h, c) w := by
    have b1 : ∀ (z y : Nat) (code : BoundsCode), z ≤ y → (Instr.sliceBound (.int .i64 z) y code).run P w = .ok z w := by
      intro z y code hzy
      have : (0 : Int) ≤ (z : Int) ∧ (z : Int) ≤ (y : Int) := by omega
      simp [Instr.sliceBound, asIntOf, this]
    rcases hl with ⟨rfl, rfl⟩ | ⟨q, rfl, hq⟩ <;> rcases hh with ⟨rfl, rfl⟩ | ⟨q', rfl, hq'⟩
    · simp [Instr.sliceBounds]
    · simp [Instr.sliceBounds, hq', b1 _ _ _ h2]
    · simp [Instr.sliceBounds, hq, b1 _ _ _ h1]
    · simp [Instr.sliceBounds, hq', hq, b1 _ _ _ h2, b1 _ _ _ h1]
  have hs : (Instr.sliceAt X (.slice A n c) (lo.map ρ) (hi.map ρ) none).run P w = .ok (.slice (if c = l then A else A.map (·.add (l * sz))) (h - l) (c - l)) w := by
    simp [Instr.sliceAt, Sem.run_bind, run_underlying hX w, Instr.slice, hb, hsz]
  simp [execOp, hx, hs]
end
/-! Memory. -/
section
variable {P : Program} {w0 w w' : World} {F0 F : Fz} {L : List Blk} {M : List RowP}
theorem load1 {T : TypeId} {b o : Nat} {v : Value} (hT : (isAgg T).run P w = .ok false w) (hc : w.cell? ⟨b, o, none⟩ = some v) : (loadVar T ⟨b, o, none⟩).run P w = .ok v w := by
  simp [loadVar, Sem.run_bind, hT, hc]
theorem loadN {T : TypeId} {b o : Nat} {cs : List Value} {d : TypeDesc} (hu : P.underlying T = some d) (hd : d.isRow = true) (hi : (P.info? T).map (·.size) = some cs.length) (hc : w.rangeAt b o cs) : (loadVar T ⟨b, o, none⟩).run P w = .ok (.agg cs.toArray) w := run_loadVar_mid w b o T cs d hc hu hd hi
theorem storeV {T : TypeId} {b o : Nat} {v : Value} (hi : (P.info? T).map (·.size) = some v.cells.size) (ht : w.there b o v.cells.size) (h1 : v.cells.all (·.oneCell') = true) : (storeVar T ⟨b, o, none⟩ v).run P w = .ok () (w.setCells b o v.cells.toList) := by
  have := run_storeVar_mid w b o T v.cells ht hi h1
  unfold storeVar at *
  exact this
/-- A new block. -/
theorem ex_alloc {ρ : Operand → Value} {d : Option Tmp} {t T : TypeId} {pos : String} {after : Array Edge} {guard : Option (Nat × Bool)} {z : Value} (hz : (zeroValue T).run P w = .ok z w) :
    (execOp ρ ⟨d, .alloc T, t, pos, after, guard⟩).run P w = .ok (.value (.pointer (some ⟨w.heap.size, 0, none⟩))) (w.alloc (.cells z.cells T)) := by
  simp only [execOp, Instr.alloc, Sem.run_bind, hz, Result.andThen_ok]
  rfl
theorem ex_box {ρ : Operand → Value} {d : Option Tmp} {t T : TypeId} {x : Operand} {pos : String} {after : Array Edge} {guard : Option (Nat × Bool)} {v : Value} (hx : ρ x = v) :
    (execOp ρ ⟨d, .box T x, t, pos, after, guard⟩).run P w = .ok (.value (.pointer (some ⟨w.heap.size, 0, none⟩))) (w.alloc (.cells v.cells T)) := by
  subst hx
  simp only [execOp, Instr.box, Sem.run_bind]
  rfl
theorem ex_lit {ρ : Operand → Value} {d : Option Tmp} {t T E : TypeId} {n : Nat} {parts : Array (Nat × Operand)} {ps : Array (Nat × Value)} {pos : String} {after : Array Edge} {guard : Option (Nat × Bool)} {cells : Array Value} (hp : (parts.map fun (i, x) => (i, ρ x)) = ps)
    (h : ∀ w, (Instr.buildSlice T n ps).run P w = .ok (.slice (some ⟨w.heap.size, 0, none⟩) n n) (w.alloc (.cells cells E))) :
    (execOp ρ ⟨d, .buildSlice T n parts, t, pos, after, guard⟩).run P w = .ok (.value (.slice (some ⟨w.heap.size, 0, none⟩) n n)) (w.alloc (.cells cells E)) := by
  subst hp
  simp only [execOp, Sem.run_bind, h, Result.andThen_ok, Sem.run_pure]
/-- The step that makes a block of the call's own. -/
theorem stNew {ops : Array Oper} {Q : Exit → Act → World → Prop} {a : Act} {rest : List Oper} {o : Oper} {cs : Array Value} {T : TypeId} {v : Nat → Value} (S : St w0 F0 w F L M) (hw : Region.wanted o (yielded ops a.tmps) = true)
    (hr : (execOp a.eval o).run P w = .ok (.value (v w.heap.size)) (w.alloc (.cells cs T)))
    (h : ∀ n w', St w0 F0 w' F (⟨n, cs.toList, T⟩ :: L) M → WL P ops Q rest (a.put o.dst (v n)) w') : WL P ops Q (o :: rest) a w :=
  do_ hw _ hr (h _ _ (S.alloc cs T))
theorem stStore {ops : Array Oper} {Q : Exit → Act → World → Prop} {a : Act} {rest : List Oper} {d : Option Tmp} {t T T' : TypeId} {x y : Operand} {pos : String} {after : Array Edge} {guard : Option (Nat × Bool)} {i n j : Nat} {c : List Value} {v : Value} (S : St w0 F0 w F L M)
    (hw : Region.wanted ⟨d, .store T x y, t, pos, after, guard⟩ (yielded ops a.tmps) = true) (hx : a.eval x = .pointer (some ⟨n, j, none⟩)) (hy : a.eval y = v) (hL : L[i]? = some ⟨n, c, T'⟩)
    (hi : (P.info? T).map (·.size) = some v.cells.size) (h1 : v.cells.all (·.oneCell') = true) (hl : j + v.cells.size ≤ c.length)
    (h : ∀ w', St w0 F0 w' F (L.set i ⟨n, splice c j v.cells.toList, T'⟩) M → WL P ops Q rest (a.put d undef) w') : WL P ops Q (⟨d, .store T x y, t, pos, after, guard⟩ :: rest) a w := by
  have hs := storeV (P := P) (T := T) (v := v) hi (S.there hL j v.cells.size hl) h1
  refine doS hw (ex_store hx (by rw [hy]; exact hs)) (h _ (S.store hL j v.cells.toList (by simpa using hl)))
/-- A call that makes something. -/
theorem stGives {ops : Array Oper} {Q : Exit → Act → World → Prop} {a : Act} {rest : List Oper} {o : Oper} {k : FuncId} {vs : Array Value} {R : Fz → Value → Prop} (S : St w0 F0 w F L M) (hw : Region.wanted o (yielded ops a.tmps) = true)
    (hr : (execOp a.eval o).run P w = .ok (.enter k vs) w) (hc : Calls P k vs w (Gives w F R))
    (h : ∀ v w' F', St w0 F0 w' F' L M → Le F F' → R F' v → WL P ops Q rest (a.put o.dst v) w') : WL P ops Q (o :: rest) a w :=
  doC hw hr hc fun e w' ⟨v, F', he, g, hR⟩ => ⟨v, he, h v w' F' (S.gives g) (g.le S.sat) hR⟩
/-- A call that hands back this. -/
theorem stTells {ops : Array Oper} {Q : Exit → Act → World → Prop} {a : Act} {rest : List Oper} {o : Oper} {k : FuncId} {vs : Array Value} {v : Value} (S : St w0 F0 w F L M) (hw : Region.wanted o (yielded ops a.tmps) = true)
    (hr : (execOp a.eval o).run P w = .ok (.enter k vs) w) (hc : Calls P k vs w (Tells w v))
    (h : ∀ w', St w0 F0 w' F L M → WL P ops Q rest (a.put o.dst v) w') : WL P ops Q (o :: rest) a w :=
  doC hw hr hc fun e w' ⟨he, hb⟩ => ⟨v, he, h w' (S.tells hb)⟩
theorem tells_same {k : FuncId} {vs : Array Value} {v : Value} (h : Calls P k vs w fun e w' => e = .returned v ∧ w' = w) : Calls P k vs w (Tells w v) := h.mono fun e w' ⟨he, hw⟩ => ⟨he, by subst hw; exact Below.refl _ _⟩
/-- What lies on top of the call's own blocks is appended to a row. -/
theorem stPush {ops : Array Oper} {Q : Exit → Act → World → Prop} {a : Act} {rest : List Oper} {d : Option Tmp} {t T E : TypeId} {x s : Operand} {pos : String} {after : Array Edge} {guard : Option (Nat × Bool)} {α : Type} {k base : Nat} {R : Fz → List Value → α → Prop} {hR : ∀ F F' x p, Le F F' → R F x p → R F' x p}
    {v : Value} {l : List α} {p : α} {i r n cp : Nat} {cs : List Value} {T' : TypeId} (S : St w0 F0 w F L M) (hw : Region.wanted ⟨d, .call ⟨.builtin .append, #[s, x], #[T, T]⟩, t, pos, after, guard⟩ (yielded ops a.tmps) = true)
    (inf : TypeInfo) (z : Value) (bytes : Nat) (ht : P.underlying T = some (.slice E)) (hi : P.info? E = some inf) (hz : inf.zero = some z) (hsize : inf.size = k) (hby : inf.bytes = bytes) (hzs : z.cells.size = k) (hsz : 0 < k)
    (hs : a.eval s = v) (hx : a.eval x = .slice (some ⟨n, 0, none⟩) 1 cp) (hM : M[r]? = some (ownP k R hR E base v l)) (hL : L[i]? = some ⟨n, cs, T'⟩) (hl : cs.length = k) (h1 : ∀ u ∈ cs, u.oneCell' = true) (hp : R F cs p)
    (hb : w0.heap.size ≤ base) (hb2 : base ≤ w.heap.size) (h63 : l.length + 1 ≤ maxLen) (hbytes : (l.length + 1) * bytes ≤ 140737488355328)
    (h : ∀ v' w', St w0 F0 w' F L (M.set r (ownP k R hR E base v' (l ++ [p]))) → v' ≠ .slice none 0 0 → WL P ops Q rest (a.put d v') w') : WL P ops Q (⟨d, .call ⟨.builtin .append, #[s, x], #[T, T]⟩, t, pos, after, guard⟩ :: rest) a w := by
  obtain ⟨el, e1, e2, e3⟩ := (S.own hM).ex
  have hbk := (S.blk _ (St.mem hL)).1
  obtain ⟨g, cap, w', hrun, h2, h3, h4, h5⟩ := run_append_lies w T t base E inf z k bytes ht hi hz hsize hby hzs hsz v l.length el.flatten e1 ⟨n, 0, none⟩ 1 cp cs (by rw [hl]; omega) (fun j u hu => World.news_of_block hbk j u (by simpa using hu)) h1 (by omega) h63 hbytes hb2 w.heap.size rfl (P := P)
  have hout : ∀ g', (Value.slice (some ⟨g, 0, none⟩) (l.length + 1) cap).ownBlock = some g' → F g' = none := by
    intro g' hg'
    cases hg'
    rcases h4 with h4 | h4
    · exact (S.own hM).out _ h4
    · subst h4; exact S.sat.out (Nat.le_refl _)
  have hown : Own k R E base w' F (.slice (some ⟨g, 0, none⟩) (l.length + 1) cap) (l ++ [p]) := by
    refine ⟨⟨el ++ [cs], ?_, e2.append ⟨hp, trivial⟩, fun y hy => ?_⟩, hout⟩
    · rw [List.flatten_append, List.length_append]
      simpa using h2
    · rcases List.mem_append.1 hy with hy | hy
      · exact e3 y hy
      · rw [List.mem_singleton.1 hy]; exact hl
  refine do_ hw (.slice (some ⟨g, 0, none⟩) (l.length + 1) cap) ?_ (h _ w' (S.grown hM hb h3 hown (fun g' hg' => ?_)) (by simp))
  · simp only [execOp, resolve, invoke, builtin, Sem.run_bind, Sem.run_pure, Result.andThen_ok, List.map_toArray, List.map_cons, List.map_nil, hs, hx, hrun]
  · cases hg'
    rcases h4 with h4 | h4
    · exact .inl h4
    · exact .inr (Nat.le_of_eq h4.symm)
end
theorem sub_range {c cs : List Value} (j : Nat) (h : (c.drop j).take cs.length = cs) : ∀ (k : Nat) v, cs[k]? = some v → c[j + k]? = some v := by
  intro k v hk
  rw [← h, List.getElem?_take] at hk
  split at hk
  · rwa [List.getElem?_drop] at hk
  · cases hk
section
variable {w : World} {b o : Nat} {x y z u : Value}
theorem range3 (h0 : w.cell? ⟨b, o, none⟩ = some x) (h1 : w.cell? ⟨b, o + 1, none⟩ = some y) (h2 : w.cell? ⟨b, o + 2, none⟩ = some z) : w.rangeAt b o [x, y, z] := fun j v hv => by
  match j, hv with
  | 0, hv => cases hv; exact h0
  | 1, hv => cases hv; exact h1
  | 2, hv => cases hv; exact h2
theorem range4 (h0 : w.cell? ⟨b, o, none⟩ = some x) (h1 : w.cell? ⟨b, o + 1, none⟩ = some y) (h2 : w.cell? ⟨b, o + 2, none⟩ = some z) (h3 : w.cell? ⟨b, o + 3, none⟩ = some u) : w.rangeAt b o [x, y, z, u] := fun j v hv => by
  match j, hv with
  | 0, hv => cases hv; exact h0
  | 1, hv => cases hv; exact h1
  | 2, hv => cases hv; exact h2
  | 3, hv => cases hv; exact h3
end
section
variable {P : Program} {fn : Func} {tmps : Array Value} {w : World}
theorem asAddr_ptr (p : Addr) : (asAddr (.pointer (some p))).run P w = .ok p w := rfl
theorem res_c {c T : Nat} {v : Value} (h : fn.results = #[.cell c T]) (h1 : ∃ p, tmps.getD c undef = .pointer (some p) ∧ (loadVar T p).run P w = .ok v w) : (results fn tmps).run P w = .ok v w := by
  obtain ⟨p, h1, h2⟩ := h1
  rw [Array.getD_eq_getD_getElem?] at h1
  simp [results, h, h1, asAddr_ptr, h2]
theorem res_t {t : Nat} {v : Value} (h : fn.results = #[.tmp t]) (h1 : tmps.getD t undef = v) : (results fn tmps).run P w = .ok v w := by
  subst h1; exact results_tmp h _ _ _
theorem res_tt {t s : Nat} {u v : Value} (h : fn.results = #[.tmp t, .tmp s]) (h1 : tmps.getD t undef = u) (h2 : tmps.getD s undef = v) : (results fn tmps).run P w = .ok (.tuple #[u, v]) w := by
  subst h1; subst h2; exact results_tmp2 h _ _ _
theorem res_ttt {t s r : Nat} {u v x : Value} (h : fn.results = #[.tmp t, .tmp s, .tmp r]) (h1 : tmps.getD t undef = u) (h2 : tmps.getD s undef = v) (h3 : tmps.getD r undef = x) : (results fn tmps).run P w = .ok (.tuple #[u, v, x]) w := by
  subst h1; subst h2; subst h3; exact results_tmp3 h _ _ _
theorem pureAt_of {o : Oper} {a : Act} {v : Value} (h : (execOp a.eval o).run P w = .ok (.value v) w) : PureAt P o a w v := by unfold PureAt; rw [h]; exact ⟨rfl, rfl⟩
theorem does_call {o : Oper} {a : Act} {Φ : Value → World → Prop} {k : FuncId} {vs : Array Value} (h : (execOp a.eval o).run P w = .ok (.enter k vs) w) (hc : Calls P k vs w (CallPost Φ)) : Does P o a w Φ := by unfold Does; rw [h]; exact ⟨rfl, hc⟩
end
theorem pS (t : Array Value) (ds : List Deferred) (d : Tmp) (v : Value) : (⟨t, ds⟩ : Act).put (some d) v = ⟨t.setIfInBounds d v, ds⟩ := rfl
theorem pN (a : Act) (v : Value) : a.put none v = a := rfl
theorem pA (l : List Value) (i : Nat) (v : Value) : l.toArray.setIfInBounds i v = (l.set i v).toArray := List.setIfInBounds_toArray ..
theorem pC (x : Value) (l : List Value) (n : Nat) (v : Value) : (x :: l).set (n + 1) v = x :: l.set n v := rfl
theorem pZ (x : Value) (l : List Value) (v : Value) : (x :: l).set 0 v = v :: l := rfl
/-- What the slots of a frame hold. -/
def slotF : List Value → Nat → Value
  | [], _ => undef
  | v :: _, 0 => v
  | _ :: l, n + 1 => slotF l n
def slots (a : Act) : Nat → Value := slotF a.tmps.toList
/-- A loop whose measure is told beside its frame; what follows is not looked at. -/
theorem exists_min {p : Nat → Prop} (h : ∃ n, p n) : ∃ n, p n ∧ ∀ m, p m → n ≤ m := by
  obtain ⟨n, hn⟩ := h
  induction n using Nat.strongRecOn with
  | _ n ih =>
    by_cases hx : ∃ m, m < n ∧ p m
    · obtain ⟨m, h1, h2⟩ := hx; exact ih m h1 h2
    · exact ⟨n, hn, fun m hm => Nat.le_of_not_lt fun h => hx ⟨m, h, hm⟩⟩
open Classical in
noncomputable def leastOf (p : Nat → Prop) : Nat := if h : ∃ n, p n then (exists_min h).choose else 0
theorem leastOf_spec {p : Nat → Prop} (h : ∃ n, p n) : p (leastOf p) ∧ ∀ m, p m → leastOf p ≤ m := by
  unfold leastOf; rw [dif_pos h]; exact (exists_min h).choose_spec
theorem wp_loop_g {P : Program} {c : Code} {Q : Exit → Act → World → Prop} {a : Act} {w : World} (I : Nat → Act → World → Prop) (n : Nat) (h0 : I n a w)
    (round : ∀ n a w, I n a w → ∀ K : Act → World → Prop, (∀ m a' w', m < n → I m a' w' → K a' w') → c.wp P (Exit.then K Q) a w) : (Code.loop c).wp P Q a w :=
  wp_loop (fun a w => ∃ n, I n a w) (fun a w => leastOf fun n => I n a w) ⟨n, h0⟩ fun a w h => by
    have hs := leastOf_spec h
    refine round _ a w hs.1 _ fun m a' w' hm hI => ⟨⟨m, hI⟩, ?_⟩
    exact Nat.lt_of_le_of_lt ((leastOf_spec (p := fun n => I n a' w') ⟨m, hI⟩).2 m hI) hm
section
variable {ρ : Operand → Value}
theorem map1 {x0 : Operand} {v0 : Value} (h0 : ρ x0 = v0) : #[x0].map ρ = #[v0] := by simp [h0]
theorem bmap1 {x0 : Operand} {v0 : Value} {i0 : Nat} (h0 : ρ x0 = v0) : (#[(i0, x0)].map fun ((i, x) : Nat × Operand) => (i, ρ x)) = #[(i0, v0)] := by simp [h0]
theorem map2 {x0 x1 : Operand} {v0 v1 : Value} (h0 : ρ x0 = v0) (h1 : ρ x1 = v1) : #[x0, x1].map ρ = #[v0, v1] := by simp [h0, h1]
theorem vmap {fs cs xs : Array Value} {os : Array Operand} {vs : Array Value} (h : os.map ρ = xs) (h2 : fs ++ xs ++ cs = vs) : fs ++ os.map ρ ++ cs = vs := by rw [h]; exact h2
end
theorem allc1 {x0 : Value} (h0 : x0.oneCell' = true) : (#[x0] : Array Value).all (·.oneCell') = true := by simp [h0]
theorem allc4 {x0 x1 x2 x3 : Value} (h0 : x0.oneCell' = true) (h1 : x1.oneCell' = true) (h2 : x2.oneCell' = true) (h3 : x3.oneCell' = true) : (#[x0, x1, x2, x3] : Array Value).all (·.oneCell') = true := by simp [h0, h1, h2, h3]
theorem wanted_no {o oj : Oper} {ops : Array Oper} {tmps : Array Value} {j d : Nat} {b c : Bool} (hg : o.guard = some (j, b)) (hj : ops[j]? = some oj) (hd : oj.dst = some d) (hv : tmps.getD d undef = .bool c) (hc : c ≠ b) : Region.wanted o (yielded ops tmps) = false := by
  rw [Array.getD_eq_getD_getElem?] at hv
  have e : tmps[d]? = some (.bool c) := by
    cases h : tmps[d]? with
    | none => rw [h] at hv; cases hv
    | some x => rw [h] at hv; cases hv; rfl
  simp [Region.wanted, hg, yielded, hj, hd, e, hc]
section
variable {P : Program} {ops : Array Oper} {md : Region.Mode} {C : World → Prop} {Sp : Nat → OpSpec} {Lq : Act → Vals → Prop} {o : Oper} {l : List Oper} {k : Nat} {a : Act} {Vs : Vals}
theorem gw_nil (h : Lq a Vs) : GW P md ops C Sp Lq [] k a Vs := ⟨wpG_nil h⟩
theorem gw_pure (hw : Region.wanted o (yielded ops a.tmps) = true) (hs : Sp k = .pure) (v : Value) (h : ∀ w, C w → PureAt P o a w v) (hn : GW P md ops C Sp Lq l (k + 1) (a.put o.dst v) Vs) : GW P md ops C Sp Lq (o :: l) k a Vs := ⟨wpG_pure hw hs v h hn.out⟩
theorem gw_const (hw : Region.wanted o (yielded ops a.tmps) = true) {v : Value} (hs : Sp k = .const v) (h : ∀ w, C w → FactsAt md ops Sp k Vs w → Does P o a w (IsPost v w)) (hn : GW P md ops C Sp Lq l (k + 1) (a.put o.dst v) Vs) : GW P md ops C Sp Lq (o :: l) k a Vs := ⟨wpG_const hw hs h hn.out⟩
theorem gw_rel (hw : Region.wanted o (yielded ops a.tmps) = true) {R : Value → World → Prop} (hs : Sp k = .rel R) (h : ∀ w, C w → FactsAt md ops Sp k Vs w → Does P o a w (RelPost R w)) (hn : ∀ v, GW P md ops C Sp Lq l (k + 1) (a.put o.dst v) (upd Vs k v)) : GW P md ops C Sp Lq (o :: l) k a Vs := ⟨wpG_rel hw hs h fun v => (hn v).out⟩
theorem region_gw {id : Nat} {Q : Exit → Act → World → Prop} {a : Act} {W : World} {l : List Oper} (F : Fz) (n : Nat) (L : List (Nat × Mark)) (hm : P.follows .mixedOrders = true) (hB : Region.lexTailB .any l.toArray n = true)
    (h : GW P .any l.toArray (fun w' => Below W.heap.size W w') (specOf W F L) (fun a' Vs => ∀ w', Below W.heap.size W w' → Facts (specOf W F L) Vs w' → WL P l.toArray Q (l.drop n) a' w') (l.take n) 0 a (fun _ => none)) : (Code.region id l.toArray true).wp P Q a W :=
  wp_region_made F n L hm hB (by
    have key : ∀ (ls : List Oper) (k : Nat) (a : Act) (Vs : Vals), wpG P .any l.toArray (fun w' => Below W.heap.size W w') (specOf W F L) (fun a' Vs => ∀ w', Below W.heap.size W w' → Facts (specOf W F L) Vs w' → WL P l.toArray Q (l.drop n) a' w') ls k a Vs →
        wpG P .any l.toArray (fun w' => Below W.heap.size W w') (specOf W F L) (fun a' Vs => ∀ w', Below W.heap.size W w' → Facts (specOf W F L) Vs w' → wpList P l.toArray Q (l.drop n) a' w') ls k a Vs := by
      intro ls
      induction ls with
      | nil => intro k a Vs h w' h1 h2; exact (h w' h1 h2).out
      | cons o ls ih =>
        intro k a Vs h
        unfold wpG at h ⊢
        split
        · rename_i hw
          rw [if_pos hw] at h
          obtain ⟨S, hS, hv⟩ := h
          exact ⟨S, hS, fun v hv' => ih _ _ _ (hv v hv')⟩
        · rename_i hw
          rw [if_neg hw] at h
          exact ih _ _ _ h
    exact key _ _ _ _ h.out)
end
end Go.Proofs.YtajmjolgphadoaaDoor
namespace Go.Proofs.YtajmjolgphadoaaDoor
open Go.RowKit
set_option linter.unusedVariables false
structure Pl where
  name : By
  key : By
  value : By
  gone : Bool
structure Ft where
  kind : Int
  a : Int
  data : By
/-- A pair by value. -/
theorem Prs.get {F : Fz} {a : Option Addr} {n c : Nat} {l : List Pr} (h : Prs F (.slice a n c) l) {i : Nat} {p : Pr} (hp : l[i]? = some p) :
    ∃ b o, a = some ⟨b, o, none⟩ ∧ ∃ xa xc ya yc, cellF F b (o + i * 2) = some (.slice xa p.1.length xc) ∧ cellF F b (o + i * 2 + 1) = some (.slice ya p.2.length yc) ∧ Bs F (.slice xa p.1.length xc) p.1 ∧ Bs F (.slice ya p.2.length yc) p.2 := by
  obtain ⟨hi, rfl⟩ := List.getElem?_eq_some_iff.1 hp
  have hn := h.len
  obtain ⟨b, o, e, h1⟩ := Prs.at h (by omega)
  obtain ⟨x, y, c1, c2, r1, r2⟩ := h1 i hi
  obtain ⟨xa, xc, rfl, _⟩ := r1.shape
  obtain ⟨ya, yc, rfl, _⟩ := r2.shape
  exact ⟨b, o, e, xa, xc, ya, yc, c1, c2, r1, r2⟩
theorem Prs.mono {F F' : Fz} {v : Value} {l : List Pr} (h : Prs F v l) (hl : Le F F') : Prs F' v l := Sl.mono PrC.mono h hl
theorem Prs.oneCell {F : Fz} {v : Value} {l : List Pr} (h : Prs F v l) : v.oneCell' = true := by obtain ⟨a, c, rfl, _⟩ := Sl.shape h; rfl
theorem Sl.takeN {α : Type} {k : Nat} {R : Fz → List Value → α → Prop} {F : Fz} {a : Option Addr} {n c : Nat} {l : List α} (h : Sl k R F (.slice a n c) l) {m : Nat} (hm : m ≤ n) : Sl k R F (.slice a m c) (l.take m) := by
  have hn := h.len
  obtain ⟨el, h1, h2, h3⟩ := h
  have h4 := Rw.takeN (by rw [hn] at h1; exact h1) (show m ≤ l.length by omega) k (F := F) (a := a) (c := c) (cs := el.flatten)
  refine ⟨el.take m, ?_, h2.take m, fun x hx => h3 x (List.mem_of_mem_take hx)⟩
  have e : (el.take m).flatten = el.flatten.take (m * k) := by
    clear h1 h2 h4 hn hm
    induction el generalizing m with
    | nil => simp
    | cons x el ih =>
      cases m with
      | zero => simp
      | succ m =>
        have hx := h3 x (by simp)
        simp only [List.take_succ_cons, List.flatten_cons]
        rw [ih (fun y hy => h3 y (by simp [hy])), Nat.add_mul, Nat.one_mul, List.take_append, hx, show m * k + k - k = m * k from by omega, List.take_of_length_le (show x.length ≤ m * k + k by omega)]
  rw [e, List.length_take, Nat.min_eq_left (by omega)]
  exact h4
theorem Sl.dropN {α : Type} {k : Nat} {R : Fz → List Value → α → Prop} {F : Fz} {b o n c : Nat} {l : List α} (h : Sl k R F (.slice (some ⟨b, o, none⟩) n c) l) {m n' c' : Nat} (hm : m ≤ n) (e1 : n - m = n') (e2 : c - m = c') : Sl k R F (.slice (some ⟨b, o + m * k, none⟩) n' c') (l.drop m) := by
  have hn := h.len
  subst e1; subst e2
  obtain ⟨el, h1, h2, h3⟩ := h
  obtain ⟨a', c0, q1, q2, q3, q4, q5⟩ := h1
  cases q1
  have hll := h2.len
  have e : (el.drop m).flatten = el.flatten.drop (m * k) := by
    clear h2 q5 hn hm q2 hll
    induction el generalizing m with
    | nil => simp
    | cons x el ih =>
      cases m with
      | zero => simp
      | succ m =>
        have hx := h3 x (by simp)
        simp only [List.drop_succ_cons, List.flatten_cons]
        rw [ih (fun y hy => h3 y (by simp [hy])), Nat.add_mul, Nat.one_mul, List.drop_append, hx, show m * k + k - k = m * k from by omega, List.drop_of_length_le (show x.length ≤ m * k + k by omega)]
        simp
  refine ⟨el.drop m, ⟨_, _, by rw [List.length_drop, hn], by rw [List.length_drop]; omega, by omega, (fun h => by cases h), ?_⟩, h2.drop m, fun x hx => h3 x (List.mem_of_mem_drop hx)⟩
  rw [e]
  rcases q5 with q5 | ⟨b', o', q6, q7⟩
  · left; rw [q5]; simp
  · right
    cases q6
    refine ⟨b, o + m * k, rfl, fun j u hu => ?_⟩
    rw [List.getElem?_drop] at hu
    have := q7 _ u hu
    rwa [← Nat.add_assoc] at this
/-- Tn: its cells. -/
def TnC (F : Fz) (cs : List Value) (p : (By × List Pr)) : Prop := ∃ a0 a1, cs = [a0, a1] ∧ Bs F a0 p.1 ∧ Prs F a1 p.2
theorem TnC.mono (F F' : Fz) (x : List Value) (p : (By × List Pr)) (hl : Le F F') (h : TnC F x p) : TnC F' x p := by
  obtain ⟨a0, a1, rfl, h0, h1⟩ := h
  exact ⟨a0, a1, rfl, h0.mono hl, h1.mono hl⟩
theorem TnC.oneCell {F : Fz} {cs : List Value} {p : (By × List Pr)} (h : TnC F cs p) : ∀ u ∈ cs, u.oneCell' = true := by
  obtain ⟨a0, a1, rfl, h0, h1⟩ := h
  intro u hu
  simp only [List.mem_cons, List.not_mem_nil, or_false] at hu
  rcases hu with rfl | rfl
  · exact h0.oneCell
  · exact h1.oneCell
abbrev Tns (F : Fz) (v : Value) (l : List (By × List Pr)) : Prop := Sl 2 TnC F v l
theorem Tns.mono {F F' : Fz} {v : Value} {l : List (By × List Pr)} (h : Tns F v l) (hl : Le F F') : Tns F' v l := Sl.mono TnC.mono h hl
theorem Tns.oneCell {F : Fz} {v : Value} {l : List (By × List Pr)} (h : Tns F v l) : v.oneCell' = true := by obtain ⟨a, c, rfl, _⟩ := Sl.shape h; rfl
theorem Tns.get {F : Fz} {a : Option Addr} {n c : Nat} {l : List (By × List Pr)} (h : Tns F (.slice a n c) l) {i : Nat} {p : (By × List Pr)} (hp : l[i]? = some p) :
    ∃ b o, a = some ⟨b, o, none⟩ ∧ ∃ x0 y0 x1 y1, cellF F b (o + i * 2) = some (.slice x0 p.1.length y0) ∧ cellF F b (o + i * 2 + 1) = some (.slice x1 p.2.length y1) ∧ Bs F (.slice x0 p.1.length y0) p.1 ∧ Prs F (.slice x1 p.2.length y1) p.2 := by
  obtain ⟨hi, rfl⟩ := List.getElem?_eq_some_iff.1 hp
  have hn := Sl.len h
  obtain ⟨b, o, e, h1⟩ := Sl.at h (by omega) (by omega)
  obtain ⟨cs, q1, ⟨a0, a1, rfl, h0, h1⟩, q3⟩ := h1 i hi
  obtain ⟨x0, y0, rfl, _⟩ := h0.shape
  obtain ⟨x1, y1, rfl, _⟩ := h1.shape
  exact ⟨b, o, e, x0, y0, x1, y1, by have := q3 0 (by simp); simpa [Nat.add_assoc] using this, by have := q3 1 (by simp); simpa [Nat.add_assoc] using this, h0, h1⟩
def TnV (F : Fz) (v : Value) (p : (By × List Pr)) : Prop := ∃ x0 y0 x1 y1, v = .agg #[.slice x0 p.1.length y0, .slice x1 p.2.length y1] ∧ Bs F (.slice x0 p.1.length y0) p.1 ∧ Prs F (.slice x1 p.2.length y1) p.2
theorem TnV.mono {F F' : Fz} {v : Value} {p : (By × List Pr)} (h : TnV F v p) (hl : Le F F') : TnV F' v p := by
  obtain ⟨x0, y0, x1, y1, rfl, h0, h1⟩ := h
  exact ⟨x0, y0, x1, y1, rfl, h0.mono hl, h1.mono hl⟩
/-- Wr: its cells. -/
def WrC (F : Fz) (cs : List Value) (p : Wr) : Prop := ∃ a0 a1 a2 a3, cs = [a0, a1, a2, a3] ∧ Bs F a0 p.name ∧ Bs F a1 p.key ∧ a2 = .bool p.gone ∧ Bs F a3 p.value
theorem WrC.mono (F F' : Fz) (x : List Value) (p : Wr) (hl : Le F F') (h : WrC F x p) : WrC F' x p := by
  obtain ⟨a0, a1, a2, a3, rfl, h0, h1, h2, h3⟩ := h
  exact ⟨a0, a1, a2, a3, rfl, h0.mono hl, h1.mono hl, h2, h3.mono hl⟩
theorem WrC.oneCell {F : Fz} {cs : List Value} {p : Wr} (h : WrC F cs p) : ∀ u ∈ cs, u.oneCell' = true := by
  obtain ⟨a0, a1, a2, a3, rfl, h0, h1, h2, h3⟩ := h
  intro u hu
  simp only [List.mem_cons, List.not_mem_nil, or_false] at hu
  rcases hu with rfl | rfl | rfl | rfl
  · exact h0.oneCell
  · exact h1.oneCell
  · rw [h2]; rfl
  · exact h3.oneCell
abbrev Wrs (F : Fz) (v : Value) (l : List Wr) : Prop := Sl 4 WrC F v l
theorem Wrs.mono {F F' : Fz} {v : Value} {l : List Wr} (h : Wrs F v l) (hl : Le F F') : Wrs F' v l := Sl.mono WrC.mono h hl
theorem Wrs.oneCell {F : Fz} {v : Value} {l : List Wr} (h : Wrs F v l) : v.oneCell' = true := by obtain ⟨a, c, rfl, _⟩ := Sl.shape h; rfl
theorem Wrs.get {F : Fz} {a : Option Addr} {n c : Nat} {l : List Wr} (h : Wrs F (.slice a n c) l) {i : Nat} {p : Wr} (hp : l[i]? = some p) :
    ∃ b o, a = some ⟨b, o, none⟩ ∧ ∃ x0 y0 x1 y1 x3 y3, cellF F b (o + i * 4) = some (.slice x0 p.name.length y0) ∧ cellF F b (o + i * 4 + 1) = some (.slice x1 p.key.length y1) ∧ cellF F b (o + i * 4 + 2) = some (.bool p.gone) ∧ cellF F b (o + i * 4 + 3) = some (.slice x3 p.value.length y3) ∧ Bs F (.slice x0 p.name.length y0) p.name ∧ Bs F (.slice x1 p.key.length y1) p.key ∧ Bs F (.slice x3 p.value.length y3) p.value := by
  obtain ⟨hi, rfl⟩ := List.getElem?_eq_some_iff.1 hp
  have hn := Sl.len h
  obtain ⟨b, o, e, h1⟩ := Sl.at h (by omega) (by omega)
  obtain ⟨cs, q1, ⟨a0, a1, a2, a3, rfl, h0, h1, h2, h3⟩, q3⟩ := h1 i hi
  obtain ⟨x0, y0, rfl, _⟩ := h0.shape
  obtain ⟨x1, y1, rfl, _⟩ := h1.shape
  subst h2
  obtain ⟨x3, y3, rfl, _⟩ := h3.shape
  exact ⟨b, o, e, x0, y0, x1, y1, x3, y3, by have := q3 0 (by simp); simpa [Nat.add_assoc] using this, by have := q3 1 (by simp); simpa [Nat.add_assoc] using this, by have := q3 2 (by simp); simpa [Nat.add_assoc] using this, by have := q3 3 (by simp); simpa [Nat.add_assoc] using this, h0, h1, h3⟩
def WrV (F : Fz) (v : Value) (p : Wr) : Prop := ∃ x0 y0 x1 y1 x3 y3, v = .agg #[.slice x0 p.name.length y0, .slice x1 p.key.length y1, .bool p.gone, .slice x3 p.value.length y3] ∧ Bs F (.slice x0 p.name.length y0) p.name ∧ Bs F (.slice x1 p.key.length y1) p.key ∧ Bs F (.slice x3 p.value.length y3) p.value
theorem WrV.mono {F F' : Fz} {v : Value} {p : Wr} (h : WrV F v p) (hl : Le F F') : WrV F' v p := by
  obtain ⟨x0, y0, x1, y1, x3, y3, rfl, h0, h1, h2⟩ := h
  exact ⟨x0, y0, x1, y1, x3, y3, rfl, h0.mono hl, h1.mono hl, h2.mono hl⟩
/-- Rd: its cells. -/
def RdC (F : Fz) (cs : List Value) (p : Rd) : Prop := ∃ a0 a1 a2 a3, cs = [a0, a1, a2, a3] ∧ Bs F a0 p.name ∧ Bs F a1 p.key ∧ a2 = .bool p.wide ∧ Bs F a3 p.last
theorem RdC.mono (F F' : Fz) (x : List Value) (p : Rd) (hl : Le F F') (h : RdC F x p) : RdC F' x p := by
  obtain ⟨a0, a1, a2, a3, rfl, h0, h1, h2, h3⟩ := h
  exact ⟨a0, a1, a2, a3, rfl, h0.mono hl, h1.mono hl, h2, h3.mono hl⟩
theorem RdC.oneCell {F : Fz} {cs : List Value} {p : Rd} (h : RdC F cs p) : ∀ u ∈ cs, u.oneCell' = true := by
  obtain ⟨a0, a1, a2, a3, rfl, h0, h1, h2, h3⟩ := h
  intro u hu
  simp only [List.mem_cons, List.not_mem_nil, or_false] at hu
  rcases hu with rfl | rfl | rfl | rfl
  · exact h0.oneCell
  · exact h1.oneCell
  · rw [h2]; rfl
  · exact h3.oneCell
abbrev Rds (F : Fz) (v : Value) (l : List Rd) : Prop := Sl 4 RdC F v l
theorem Rds.mono {F F' : Fz} {v : Value} {l : List Rd} (h : Rds F v l) (hl : Le F F') : Rds F' v l := Sl.mono RdC.mono h hl
theorem Rds.oneCell {F : Fz} {v : Value} {l : List Rd} (h : Rds F v l) : v.oneCell' = true := by obtain ⟨a, c, rfl, _⟩ := Sl.shape h; rfl
theorem Rds.get {F : Fz} {a : Option Addr} {n c : Nat} {l : List Rd} (h : Rds F (.slice a n c) l) {i : Nat} {p : Rd} (hp : l[i]? = some p) :
    ∃ b o, a = some ⟨b, o, none⟩ ∧ ∃ x0 y0 x1 y1 x3 y3, cellF F b (o + i * 4) = some (.slice x0 p.name.length y0) ∧ cellF F b (o + i * 4 + 1) = some (.slice x1 p.key.length y1) ∧ cellF F b (o + i * 4 + 2) = some (.bool p.wide) ∧ cellF F b (o + i * 4 + 3) = some (.slice x3 p.last.length y3) ∧ Bs F (.slice x0 p.name.length y0) p.name ∧ Bs F (.slice x1 p.key.length y1) p.key ∧ Bs F (.slice x3 p.last.length y3) p.last := by
  obtain ⟨hi, rfl⟩ := List.getElem?_eq_some_iff.1 hp
  have hn := Sl.len h
  obtain ⟨b, o, e, h1⟩ := Sl.at h (by omega) (by omega)
  obtain ⟨cs, q1, ⟨a0, a1, a2, a3, rfl, h0, h1, h2, h3⟩, q3⟩ := h1 i hi
  obtain ⟨x0, y0, rfl, _⟩ := h0.shape
  obtain ⟨x1, y1, rfl, _⟩ := h1.shape
  subst h2
  obtain ⟨x3, y3, rfl, _⟩ := h3.shape
  exact ⟨b, o, e, x0, y0, x1, y1, x3, y3, by have := q3 0 (by simp); simpa [Nat.add_assoc] using this, by have := q3 1 (by simp); simpa [Nat.add_assoc] using this, by have := q3 2 (by simp); simpa [Nat.add_assoc] using this, by have := q3 3 (by simp); simpa [Nat.add_assoc] using this, h0, h1, h3⟩
def RdV (F : Fz) (v : Value) (p : Rd) : Prop := ∃ x0 y0 x1 y1 x3 y3, v = .agg #[.slice x0 p.name.length y0, .slice x1 p.key.length y1, .bool p.wide, .slice x3 p.last.length y3] ∧ Bs F (.slice x0 p.name.length y0) p.name ∧ Bs F (.slice x1 p.key.length y1) p.key ∧ Bs F (.slice x3 p.last.length y3) p.last
theorem RdV.mono {F F' : Fz} {v : Value} {p : Rd} (h : RdV F v p) (hl : Le F F') : RdV F' v p := by
  obtain ⟨x0, y0, x1, y1, x3, y3, rfl, h0, h1, h2⟩ := h
  exact ⟨x0, y0, x1, y1, x3, y3, rfl, h0.mono hl, h1.mono hl, h2.mono hl⟩
/-- Cm: its cells. -/
def CmC (F : Fz) (cs : List Value) (p : Cm) : Prop := ∃ a0 a1, cs = [a0, a1] ∧ a0 = .int .i64 ((p.turn : Nat) : Int) ∧ Wrs F a1 p.writes
theorem CmC.mono (F F' : Fz) (x : List Value) (p : Cm) (hl : Le F F') (h : CmC F x p) : CmC F' x p := by
  obtain ⟨a0, a1, rfl, h0, h1⟩ := h
  exact ⟨a0, a1, rfl, h0, h1.mono hl⟩
theorem CmC.oneCell {F : Fz} {cs : List Value} {p : Cm} (h : CmC F cs p) : ∀ u ∈ cs, u.oneCell' = true := by
  obtain ⟨a0, a1, rfl, h0, h1⟩ := h
  intro u hu
  simp only [List.mem_cons, List.not_mem_nil, or_false] at hu
  rcases hu with rfl | rfl
  · rw [h0]; rfl
  · exact h1.oneCell
abbrev Cms (F : Fz) (v : Value) (l : List Cm) : Prop := Sl 2 CmC F v l
theorem Cms.mono {F F' : Fz} {v : Value} {l : List Cm} (h : Cms F v l) (hl : Le F F') : Cms F' v l := Sl.mono CmC.mono h hl
theorem Cms.oneCell {F : Fz} {v : Value} {l : List Cm} (h : Cms F v l) : v.oneCell' = true := by obtain ⟨a, c, rfl, _⟩ := Sl.shape h; rfl
theorem Cms.get {F : Fz} {a : Option Addr} {n c : Nat} {l : List Cm} (h : Cms F (.slice a n c) l) {i : Nat} {p : Cm} (hp : l[i]? = some p) :
    ∃ b o, a = some ⟨b, o, none⟩ ∧ ∃ x1 y1, cellF F b (o + i * 2) = some (.int .i64 ((p.turn : Nat) : Int)) ∧ cellF F b (o + i * 2 + 1) = some (.slice x1 p.writes.length y1) ∧ Wrs F (.slice x1 p.writes.length y1) p.writes := by
  obtain ⟨hi, rfl⟩ := List.getElem?_eq_some_iff.1 hp
  have hn := Sl.len h
  obtain ⟨b, o, e, h1⟩ := Sl.at h (by omega) (by omega)
  obtain ⟨cs, q1, ⟨a0, a1, rfl, h0, h1⟩, q3⟩ := h1 i hi
  subst h0
  obtain ⟨x1, y1, rfl, _⟩ := h1.shape
  exact ⟨b, o, e, x1, y1, by have := q3 0 (by simp); simpa [Nat.add_assoc] using this, by have := q3 1 (by simp); simpa [Nat.add_assoc] using this, h1⟩
def CmV (F : Fz) (v : Value) (p : Cm) : Prop := ∃ x1 y1, v = .agg #[.int .i64 ((p.turn : Nat) : Int), .slice x1 p.writes.length y1] ∧ Wrs F (.slice x1 p.writes.length y1) p.writes
theorem CmV.mono {F F' : Fz} {v : Value} {p : Cm} (h : CmV F v p) (hl : Le F F') : CmV F' v p := by
  obtain ⟨x1, y1, rfl, h0⟩ := h
  exact ⟨x1, y1, rfl, h0.mono hl⟩
/-- Stp: its cells. -/
def StpC (F : Fz) (cs : List Value) (p : Stp) : Prop := ∃ a0 a1 a2, cs = [a0, a1, a2] ∧ a0 = .int .i64 ((p.bit : Nat) : Int) ∧ a1 = .bool p.right ∧ Bs F a2 p.other
theorem StpC.mono (F F' : Fz) (x : List Value) (p : Stp) (hl : Le F F') (h : StpC F x p) : StpC F' x p := by
  obtain ⟨a0, a1, a2, rfl, h0, h1, h2⟩ := h
  exact ⟨a0, a1, a2, rfl, h0, h1, h2.mono hl⟩
theorem StpC.oneCell {F : Fz} {cs : List Value} {p : Stp} (h : StpC F cs p) : ∀ u ∈ cs, u.oneCell' = true := by
  obtain ⟨a0, a1, a2, rfl, h0, h1, h2⟩ := h
  intro u hu
  simp only [List.mem_cons, List.not_mem_nil, or_false] at hu
  rcases hu with rfl | rfl | rfl
  · rw [h0]; rfl
  · rw [h1]; rfl
  · exact h2.oneCell
abbrev Stps (F : Fz) (v : Value) (l : List Stp) : Prop := Sl 3 StpC F v l
theorem Stps.mono {F F' : Fz} {v : Value} {l : List Stp} (h : Stps F v l) (hl : Le F F') : Stps F' v l := Sl.mono StpC.mono h hl
theorem Stps.oneCell {F : Fz} {v : Value} {l : List Stp} (h : Stps F v l) : v.oneCell' = true := by obtain ⟨a, c, rfl, _⟩ := Sl.shape h; rfl
theorem Stps.get {F : Fz} {a : Option Addr} {n c : Nat} {l : List Stp} (h : Stps F (.slice a n c) l) {i : Nat} {p : Stp} (hp : l[i]? = some p) :
    ∃ b o, a = some ⟨b, o, none⟩ ∧ ∃ x2 y2, cellF F b (o + i * 3) = some (.int .i64 ((p.bit : Nat) : Int)) ∧ cellF F b (o + i * 3 + 1) = some (.bool p.right) ∧ cellF F b (o + i * 3 + 2) = some (.slice x2 p.other.length y2) ∧ Bs F (.slice x2 p.other.length y2) p.other := by
  obtain ⟨hi, rfl⟩ := List.getElem?_eq_some_iff.1 hp
  have hn := Sl.len h
  obtain ⟨b, o, e, h1⟩ := Sl.at h (by omega) (by omega)
  obtain ⟨cs, q1, ⟨a0, a1, a2, rfl, h0, h1, h2⟩, q3⟩ := h1 i hi
  subst h0
  subst h1
  obtain ⟨x2, y2, rfl, _⟩ := h2.shape
  exact ⟨b, o, e, x2, y2, by have := q3 0 (by simp); simpa [Nat.add_assoc] using this, by have := q3 1 (by simp); simpa [Nat.add_assoc] using this, by have := q3 2 (by simp); simpa [Nat.add_assoc] using this, h2⟩
def StpV (F : Fz) (v : Value) (p : Stp) : Prop := ∃ x2 y2, v = .agg #[.int .i64 ((p.bit : Nat) : Int), .bool p.right, .slice x2 p.other.length y2] ∧ Bs F (.slice x2 p.other.length y2) p.other
theorem StpV.mono {F F' : Fz} {v : Value} {p : Stp} (h : StpV F v p) (hl : Le F F') : StpV F' v p := by
  obtain ⟨x2, y2, rfl, h0⟩ := h
  exact ⟨x2, y2, rfl, h0.mono hl⟩
/-- Pl: its cells. -/
def PlC (F : Fz) (cs : List Value) (p : Pl) : Prop := ∃ a0 a1 a2 a3, cs = [a0, a1, a2, a3] ∧ Bs F a0 p.name ∧ Bs F a1 p.key ∧ Bs F a2 p.value ∧ a3 = .bool p.gone
theorem PlC.mono (F F' : Fz) (x : List Value) (p : Pl) (hl : Le F F') (h : PlC F x p) : PlC F' x p := by
  obtain ⟨a0, a1, a2, a3, rfl, h0, h1, h2, h3⟩ := h
  exact ⟨a0, a1, a2, a3, rfl, h0.mono hl, h1.mono hl, h2.mono hl, h3⟩
theorem PlC.oneCell {F : Fz} {cs : List Value} {p : Pl} (h : PlC F cs p) : ∀ u ∈ cs, u.oneCell' = true := by
  obtain ⟨a0, a1, a2, a3, rfl, h0, h1, h2, h3⟩ := h
  intro u hu
  simp only [List.mem_cons, List.not_mem_nil, or_false] at hu
  rcases hu with rfl | rfl | rfl | rfl
  · exact h0.oneCell
  · exact h1.oneCell
  · exact h2.oneCell
  · rw [h3]; rfl
abbrev Pls (F : Fz) (v : Value) (l : List Pl) : Prop := Sl 4 PlC F v l
theorem Pls.mono {F F' : Fz} {v : Value} {l : List Pl} (h : Pls F v l) (hl : Le F F') : Pls F' v l := Sl.mono PlC.mono h hl
theorem Pls.oneCell {F : Fz} {v : Value} {l : List Pl} (h : Pls F v l) : v.oneCell' = true := by obtain ⟨a, c, rfl, _⟩ := Sl.shape h; rfl
theorem Pls.get {F : Fz} {a : Option Addr} {n c : Nat} {l : List Pl} (h : Pls F (.slice a n c) l) {i : Nat} {p : Pl} (hp : l[i]? = some p) :
    ∃ b o, a = some ⟨b, o, none⟩ ∧ ∃ x0 y0 x1 y1 x2 y2, cellF F b (o + i * 4) = some (.slice x0 p.name.length y0) ∧ cellF F b (o + i * 4 + 1) = some (.slice x1 p.key.length y1) ∧ cellF F b (o + i * 4 + 2) = some (.slice x2 p.value.length y2) ∧ cellF F b (o + i * 4 + 3) = some (.bool p.gone) ∧ Bs F (.slice x0 p.name.length y0) p.name ∧ Bs F (.slice x1 p.key.length y1) p.key ∧ Bs F (.slice x2 p.value.length y2) p.value := by
  obtain ⟨hi, rfl⟩ := List.getElem?_eq_some_iff.1 hp
  have hn := Sl.len h
  obtain ⟨b, o, e, h1⟩ := Sl.at h (by omega) (by omega)
  obtain ⟨cs, q1, ⟨a0, a1, a2, a3, rfl, h0, h1, h2, h3⟩, q3⟩ := h1 i hi
  obtain ⟨x0, y0, rfl, _⟩ := h0.shape
  obtain ⟨x1, y1, rfl, _⟩ := h1.shape
  obtain ⟨x2, y2, rfl, _⟩ := h2.shape
  subst h3
  exact ⟨b, o, e, x0, y0, x1, y1, x2, y2, by have := q3 0 (by simp); simpa [Nat.add_assoc] using this, by have := q3 1 (by simp); simpa [Nat.add_assoc] using this, by have := q3 2 (by simp); simpa [Nat.add_assoc] using this, by have := q3 3 (by simp); simpa [Nat.add_assoc] using this, h0, h1, h2⟩
def PlV (F : Fz) (v : Value) (p : Pl) : Prop := ∃ x0 y0 x1 y1 x2 y2, v = .agg #[.slice x0 p.name.length y0, .slice x1 p.key.length y1, .slice x2 p.value.length y2, .bool p.gone] ∧ Bs F (.slice x0 p.name.length y0) p.name ∧ Bs F (.slice x1 p.key.length y1) p.key ∧ Bs F (.slice x2 p.value.length y2) p.value
theorem PlV.mono {F F' : Fz} {v : Value} {p : Pl} (h : PlV F v p) (hl : Le F F') : PlV F' v p := by
  obtain ⟨x0, y0, x1, y1, x2, y2, rfl, h0, h1, h2⟩ := h
  exact ⟨x0, y0, x1, y1, x2, y2, rfl, h0.mono hl, h1.mono hl, h2.mono hl⟩
/-- Ft: its cells. -/
def FtC (F : Fz) (cs : List Value) (p : Ft) : Prop := ∃ a0 a1 a2, cs = [a0, a1, a2] ∧ a0 = .int .i64 p.kind ∧ a1 = .int .i64 p.a ∧ Bs F a2 p.data
theorem FtC.mono (F F' : Fz) (x : List Value) (p : Ft) (hl : Le F F') (h : FtC F x p) : FtC F' x p := by
  obtain ⟨a0, a1, a2, rfl, h0, h1, h2⟩ := h
  exact ⟨a0, a1, a2, rfl, h0, h1, h2.mono hl⟩
theorem FtC.oneCell {F : Fz} {cs : List Value} {p : Ft} (h : FtC F cs p) : ∀ u ∈ cs, u.oneCell' = true := by
  obtain ⟨a0, a1, a2, rfl, h0, h1, h2⟩ := h
  intro u hu
  simp only [List.mem_cons, List.not_mem_nil, or_false] at hu
  rcases hu with rfl | rfl | rfl
  · rw [h0]; rfl
  · rw [h1]; rfl
  · exact h2.oneCell
abbrev Fts (F : Fz) (v : Value) (l : List Ft) : Prop := Sl 3 FtC F v l
theorem Fts.mono {F F' : Fz} {v : Value} {l : List Ft} (h : Fts F v l) (hl : Le F F') : Fts F' v l := Sl.mono FtC.mono h hl
theorem Fts.oneCell {F : Fz} {v : Value} {l : List Ft} (h : Fts F v l) : v.oneCell' = true := by obtain ⟨a, c, rfl, _⟩ := Sl.shape h; rfl
theorem Fts.get {F : Fz} {a : Option Addr} {n c : Nat} {l : List Ft} (h : Fts F (.slice a n c) l) {i : Nat} {p : Ft} (hp : l[i]? = some p) :
    ∃ b o, a = some ⟨b, o, none⟩ ∧ ∃ x2 y2, cellF F b (o + i * 3) = some (.int .i64 p.kind) ∧ cellF F b (o + i * 3 + 1) = some (.int .i64 p.a) ∧ cellF F b (o + i * 3 + 2) = some (.slice x2 p.data.length y2) ∧ Bs F (.slice x2 p.data.length y2) p.data := by
  obtain ⟨hi, rfl⟩ := List.getElem?_eq_some_iff.1 hp
  have hn := Sl.len h
  obtain ⟨b, o, e, h1⟩ := Sl.at h (by omega) (by omega)
  obtain ⟨cs, q1, ⟨a0, a1, a2, rfl, h0, h1, h2⟩, q3⟩ := h1 i hi
  subst h0
  subst h1
  obtain ⟨x2, y2, rfl, _⟩ := h2.shape
  exact ⟨b, o, e, x2, y2, by have := q3 0 (by simp); simpa [Nat.add_assoc] using this, by have := q3 1 (by simp); simpa [Nat.add_assoc] using this, by have := q3 2 (by simp); simpa [Nat.add_assoc] using this, h2⟩
def FtV (F : Fz) (v : Value) (p : Ft) : Prop := ∃ x2 y2, v = .agg #[.int .i64 p.kind, .int .i64 p.a, .slice x2 p.data.length y2] ∧ Bs F (.slice x2 p.data.length y2) p.data
theorem FtV.mono {F F' : Fz} {v : Value} {p : Ft} (h : FtV F v p) (hl : Le F F') : FtV F' v p := by
  obtain ⟨x2, y2, rfl, h0⟩ := h
  exact ⟨x2, y2, rfl, h0.mono hl⟩
def Pr2V (F : Fz) (v : Value) (p : Pr) : Prop := ∃ x0 y0 x1 y1, v = .agg #[.slice x0 p.1.length y0, .slice x1 p.2.length y1] ∧ Bs F (.slice x0 p.1.length y0) p.1 ∧ Bs F (.slice x1 p.2.length y1) p.2
theorem Pr2V.mono {F F' : Fz} {v : Value} {p : Pr} (h : Pr2V F v p) (hl : Le F F') : Pr2V F' v p := by
  obtain ⟨x0, y0, x1, y1, rfl, h0, h1⟩ := h
  exact ⟨x0, y0, x1, y1, rfl, h0.mono hl, h1.mono hl⟩
end Go.Proofs.YtajmjolgphadoaaDoor
namespace Go.Proofs.YtajmjolgphadoaaDoor
open Go.RowKit
set_option linter.unusedVariables false
/-- A slice that can be read in this world. -/
def SlW {α : Type} (w : World) (F : Fz) (k : Nat) (R : Fz → List Value → α → Prop) (v : Value) (l : List α) : Prop :=
  ∃ (el : List (List Value)) (a : Option Addr) (c : Nat), v = .slice a l.length c ∧ l.length ≤ c ∧ c ≤ maxLen ∧ (a = none → l = [] ∧ c = 0) ∧ AllR (R F) el l ∧ (∀ x ∈ el, x.length = k) ∧
    (el.flatten = [] ∨ ∃ b o, a = some ⟨b, o, none⟩ ∧ ∀ j u, el.flatten[j]? = some u → w.cell? ⟨b, o + j, none⟩ = some u)
section
variable {α : Type} {w w' : World} {F F' : Fz} {k : Nat} {R : Fz → List Value → α → Prop} {v : Value} {l : List α}
theorem Sl.toW (h : Sl k R F v l) (hs : Sat w F) : SlW w F k R v l := by
  obtain ⟨el, ⟨a, c, h1, h2, h3, h4, h5⟩, h6, h7⟩ := h
  refine ⟨el, a, c, h1, h2, h3, fun e => ⟨List.eq_nil_of_length_eq_zero (h4 e).1, (h4 e).2⟩, h6, h7, h5.imp id ?_⟩
  rintro ⟨b, o, e, hc⟩
  exact ⟨b, o, e, fun j u hu => hs.cell (hc j u hu)⟩
theorem Own.toW {E base : Nat} (h : Own k R E base w F v l) : SlW w F k R v l := by
  obtain ⟨el, ⟨e1, e2⟩, h2, h3⟩ := h.ex
  rcases e2 with ⟨rfl, h0⟩ | ⟨g, cap, cur, rfl, hb, hg, q1, q2, q3, q4⟩
  · have hl : l = [] := List.eq_nil_of_length_eq_zero h0
    subst hl
    exact ⟨el, none, 0, rfl, by simp, Nat.zero_le _, fun _ => ⟨rfl, rfl⟩, h2, h3, .inl (List.eq_nil_of_length_eq_zero (by simpa using e1))⟩
  · refine ⟨el, _, cap, rfl, q1, q2, (fun e => by cases e), h2, h3, .inr ⟨g, 0, rfl, fun j u hu => ?_⟩⟩
    rw [← q4, List.getElem?_take] at hu
    split at hu
    · rw [Nat.zero_add]; simp only [World.cell?, hg]; simpa using hu
    · cases hu
theorem flatten_take {el : List (List Value)} (h3 : ∀ x ∈ el, x.length = k) (m : Nat) : (el.take m).flatten = el.flatten.take (m * k) := by
  induction el generalizing m with
  | nil => simp
  | cons x el ih =>
    cases m with
    | zero => simp
    | succ m =>
      have hx := h3 x (by simp)
      simp only [List.take_succ_cons, List.flatten_cons]
      rw [ih (fun y hy => h3 y (by simp [hy])), Nat.add_mul, Nat.one_mul, List.take_append, hx, show m * k + k - k = m * k from by omega, List.take_of_length_le (show x.length ≤ m * k + k by omega)]
theorem flatten_drop {el : List (List Value)} (h3 : ∀ x ∈ el, x.length = k) (m : Nat) : (el.drop m).flatten = el.flatten.drop (m * k) := by
  induction el generalizing m with
  | nil => simp
  | cons x el ih =>
    cases m with
    | zero => simp
    | succ m =>
      have hx := h3 x (by simp)
      simp only [List.drop_succ_cons, List.flatten_cons]
      rw [ih (fun y hy => h3 y (by simp [hy])), Nat.add_mul, Nat.one_mul, List.drop_append, hx, show m * k + k - k = m * k from by omega, List.drop_of_length_le (show x.length ≤ m * k + k by omega)]
      simp
theorem SlW.takeN {a : Option Addr} {n c m : Nat} (h : SlW w F k R (.slice a n c) l) (hm : m ≤ n) : SlW w F k R (.slice a m c) (l.take m) := by
  obtain ⟨el, a', c', h1, h2, h3, h4, h5, h6, h7⟩ := h
  cases h1
  refine ⟨el.take m, a, c, by rw [List.length_take, Nat.min_eq_left hm], by rw [List.length_take]; omega, h3, fun e => ⟨by rw [(h4 e).1]; simp, (h4 e).2⟩, h5.take m, fun x hx => h6 x (List.mem_of_mem_take hx), ?_⟩
  rw [flatten_take h6]
  refine h7.imp (fun e => by rw [e]; simp) ?_
  rintro ⟨b, o, e, hc⟩
  refine ⟨b, o, e, fun j u hu => hc j u ?_⟩
  rw [List.getElem?_take] at hu
  split at hu
  · exact hu
  · cases hu
/-- s[m:], wherever it begins. -/
theorem SlW.dropN {a : Option Addr} {n c m : Nat} (h : SlW w F k R (.slice a n c) l) (hm : m ≤ n) : SlW w F k R (.slice (if c = m then a else a.map (·.add (m * k))) (n - m) (c - m)) (l.drop m) := by
  obtain ⟨el, a', c', h1, h2, h3, h4, h5, h6, h7⟩ := h
  cases h1
  refine ⟨el.drop m, _, c - m, by rw [List.length_drop], by rw [List.length_drop]; omega, by omega, fun e => ?_, h5.drop m, fun x hx => h6 x (List.mem_of_mem_drop hx), ?_⟩
  · cases a with
    | none => obtain ⟨e1, e2⟩ := h4 rfl; subst e1; simp at hm; simp [e2]
    | some a => split at e <;> cases e
  · rw [flatten_drop h6]
    by_cases hcm : c = m
    · left
      have hll := h5.len
      have : (l.drop m) = [] := List.drop_of_length_le (by omega)
      rw [List.drop_of_length_le]
      rw [flatten_len h6, hll]
      exact Nat.mul_le_mul_right k (by omega)
    · rw [if_neg hcm]
      refine h7.imp (fun e => by rw [e]; simp) ?_
      rintro ⟨b, o, e, hc⟩
      subst e
      refine ⟨b, o + m * k, by show some (Addr.add ⟨b, o, none⟩ (m * k)) = _; rw [Addr.add_mid], fun j u hu => ?_⟩
      rw [List.getElem?_drop] at hu
      have := hc _ u hu
      rwa [← Nat.add_assoc] at this
theorem SlW.len {a : Option Addr} {n c : Nat} (h : SlW w F k R (.slice a n c) l) : n = l.length := by
  obtain ⟨el, a', c', h1, _⟩ := h; cases h1; rfl
/-- Element i: its cells. -/
theorem SlW.get {a : Option Addr} {n c : Nat} (h : SlW w F k R (.slice a n c) l) (hk : 0 < k) {i : Nat} {p : α} (hp : l[i]? = some p) : ∃ b o cs, a = some ⟨b, o, none⟩ ∧ cs.length = k ∧ R F cs p ∧ w.rangeAt b (o + i * k) cs := by
  obtain ⟨el, a', c', h1, h2, h3, h4, h5, h6, h7⟩ := h
  cases h1
  obtain ⟨hi, rfl⟩ := List.getElem?_eq_some_iff.1 hp
  have hll := h5.len
  have hne : el.flatten ≠ [] := by
    intro e
    have := congrArg List.length e
    rw [flatten_len h6, hll] at this
    have := Nat.mul_pos (show 0 < l.length by omega) hk
    simp at *
    omega
  obtain ⟨b, o, e, hc⟩ := h7.resolve_left hne
  refine ⟨b, o, el[i]'(by omega), e, h6 _ (List.getElem_mem _), h5.get i (by omega) hi, fun j u hu => ?_⟩
  have hj : j < k := by
    have := (List.getElem?_eq_some_iff.1 hu).1
    rwa [h6 _ (List.getElem_mem _)] at this
  rw [Nat.add_assoc]
  exact hc _ _ (by rw [flatten_at h6 i (by omega) j hj]; exact hu)
end
section
variable {P : Program} {w0 w w' : World} {F0 F : Fz} {L : List Blk} {M : List RowP} {α : Type} {k base E : Nat} {R : Fz → List Value → α → Prop} {hR : ∀ F F' x p, Le F F' → R F x p → R F' x p} {v : Value} {l : List α}
/-- 'append(row, slice...)'. -/
theorem stAppendS {ops : Array Oper} {Q : Exit → Act → World → Prop} {a : Act} {rest : List Oper} {d : Option Tmp} {t T : TypeId} {x s : Operand} {pos : String} {after : Array Edge} {guard : Option (Nat × Bool)}
    {u : Value} {m : List α} {r : Nat} (S : St w0 F0 w F L M) (hw : Region.wanted ⟨d, .call ⟨.builtin .append, #[s, x], #[T, T]⟩, t, pos, after, guard⟩ (yielded ops a.tmps) = true)
    (inf : TypeInfo) (z : Value) (bytes : Nat) (ht : P.underlying T = some (.slice E)) (hi : P.info? E = some inf) (hz : inf.zero = some z) (hsize : inf.size = k) (hby : inf.bytes = bytes) (hzs : z.cells.size = k) (hsz : 0 < k)
    (hs : a.eval s = v) (hx : a.eval x = u) (hM : M[r]? = some (ownP k R hR E base v l)) (hu : SlW w F k R u m) (h1 : ∀ F cs p, R F cs p → ∀ u ∈ cs, u.oneCell' = true)
    (hb : w0.heap.size ≤ base) (hb2 : base ≤ w.heap.size) (h63 : l.length + m.length ≤ maxLen) (hbytes : (l.length + m.length) * bytes ≤ 140737488355328)
    (h : ∀ v' w', St w0 F0 w' F L (M.set r (ownP k R hR E base v' (l ++ m))) → (v' = .slice none 0 0 → l = [] ∧ m = []) → WL P ops Q rest (a.put d v') w') : WL P ops Q (⟨d, .call ⟨.builtin .append, #[s, x], #[T, T]⟩, t, pos, after, guard⟩ :: rest) a w := by
  obtain ⟨el, e1, e2, e3⟩ := (S.own hM).ex
  obtain ⟨nl, ad, c, rfl, q2, q3, q4, q5, q6, q7⟩ := hu
  have hnl := q5.len
  have hflat : nl.flatten.length = m.length * k := by rw [flatten_len q6, hnl]
  have hone : ∀ u ∈ nl.flatten, u.oneCell' = true := by
    intro u hu
    obtain ⟨y, hy, huy⟩ := List.mem_flatten.1 hu
    obtain ⟨i, hi', rfl⟩ := List.mem_iff_getElem.1 hy
    exact h1 _ _ _ (q5.get i hi' (by omega)) u huy
  cases ad with
  | none =>
    obtain ⟨hm0, hc0⟩ := q4 rfl
    subst hm0
    have hrun := run_append_owned_none (P := P) w base T t E inf k ht hi v l.length el.flatten e1
    refine do_ hw v ?_ (h v w ?_ (fun e => ?_))
    · simp only [execOp, resolve, invoke, builtin, Sem.run_bind, Sem.run_pure, Result.andThen_ok, List.map_toArray, List.map_cons, List.map_nil, hs, hx]
      simp only [List.length_nil, hc0]
      rw [hrun]; rfl
    · rw [List.append_nil]
      have : M.set r (ownP k R hR E base v l) = M := by
        obtain ⟨h1, h2⟩ := List.getElem?_eq_some_iff.1 hM
        rw [← h2]; simp
      rw [this]; exact S
    · refine ⟨?_, rfl⟩
      subst e
      obtain ⟨_, ⟨_, h0⟩ | ⟨_, _, _, h0, _⟩⟩ := e1
      · exact List.eq_nil_of_length_eq_zero h0
      · cases h0
  | some ad =>
    have hnews : ∀ j u, nl.flatten[j]? = some u → w.cell? (ad.add j) = some u := by
      intro j u hu
      rcases q7 with q7 | ⟨b, o, e, hc⟩
      · rw [q7] at hu; simp at hu
      · cases e; rw [Addr.add_mid]; exact hc j u hu
    obtain ⟨v', w', hrun, h2, h3, h4, h5⟩ := run_append_own_at (P := P) w base T t E inf z k bytes ht hi hz hsize hby hzs hsz v l.length el.flatten e1 ad m.length c nl.flatten hflat hnews hone h63 hbytes hb2
    have hf : ∀ g, v'.ownBlock = some g → v.ownBlock = some g ∨ w.heap.size ≤ g := by
      intro g hg
      rcases h5 with h5 | h5
      · left; rw [← h5]; exact hg
      · right; rw [h5] at hg; cases hg; exact Nat.le_refl _
    have hout : ∀ g, v'.ownBlock = some g → F g = none := by
      intro g hg
      rcases h5 with h5 | h5
      · exact (S.own hM).out g (by rw [← h5]; exact hg)
      · rw [h5] at hg; cases hg; exact S.sat.out (Nat.le_refl _)
    have hown : Own k R E base w' F v' (l ++ m) := by
      refine ⟨⟨el ++ nl, ?_, e2.append q5, fun y hy => ?_⟩, hout⟩
      · rw [List.flatten_append, List.length_append]; exact h2
      · rcases List.mem_append.1 hy with hy | hy
        · exact e3 y hy
        · exact q6 y hy
    refine do_ hw v' ?_ (h v' w' (S.grown hM hb h3 hown hf) (fun e => ?_))
    · simp only [execOp, resolve, invoke, builtin, Sem.run_bind, Sem.run_pure, Result.andThen_ok, List.map_toArray, List.map_cons, List.map_nil, hs, hx, hrun]
    · obtain ⟨h6, h7⟩ := h4.1 e
      subst h6
      obtain ⟨_, ⟨_, h0⟩ | ⟨_, _, _, h0, _⟩⟩ := e1
      · exact ⟨List.eq_nil_of_length_eq_zero h0, List.eq_nil_of_length_eq_zero h7⟩
      · cases h0
theorem Own.form (h : Own k R E base w F v l) (hn : 0 < l.length) : ∃ g cap, v = .slice (some ⟨g, 0, none⟩) l.length cap ∧ l.length ≤ cap ∧ cap ≤ maxLen ∧ ∃ cur : Array Value, w.heap[g]? = some (.cells cur E (0, 0)) ∧ cur.size = cap * k := by
  obtain ⟨el, ⟨_, ⟨_, h0⟩ | ⟨g, cap, cur, rfl, _, hg, q1, q2, q3, q4⟩⟩, _⟩ := h.ex
  · omega
  · exact ⟨g, cap, rfl, q1, q2, cur, hg, q3⟩
end
end Go.Proofs.YtajmjolgphadoaaDoor
namespace Go.Proofs.YtajmjolgphadoaaDoor
open Go.RowKit
set_option linter.unusedVariables false
section
variable {P : Program} {w0 w w' : World} {F0 F : Fz} {L : List Blk} {M : List RowP} {α : Type} {k base E : Nat} {R : Fz → List Value → α → Prop} {hR : ∀ F F' x p, Le F F' → R F x p → R F' x p} {v : Value} {l : List α}
theorem St.other (S : St w0 F0 w F L M) {r : Nat} {p : RowP} (hM : M[r]? = some p) : ∀ s ∈ M.eraseIdx r, ∀ g, p.ob = some g → s.ob ≠ some g := by
  obtain ⟨hi, he⟩ := List.getElem?_eq_some_iff.1 hM
  intro s hs g hg hc
  obtain ⟨k', hk, rfl⟩ := List.mem_iff_getElem.1 hs
  have hp := List.pairwise_iff_getElem.1 S.rr
  rw [List.length_eraseIdx, if_pos hi] at hk
  rw [List.getElem_eraseIdx] at hc
  split at hc
  · rename_i hlt
    have := hp k' r (by omega) hi hlt g hc; rw [he] at this; exact this hg
  · rename_i hge
    have := hp r (k' + 1) hi (by omega) (by omega) g (by rw [he]; exact hg); exact this hc
/-- A row of the call's own as a block whose cells are known. -/
theorem St.rowBlk {r g n cap : Nat} (S : St w0 F0 w F L M) (hM : M[r]? = some (ownP k R hR E base (.slice (some ⟨g, 0, none⟩) n cap) l)) :
    ∃ c el, St w0 F0 w F (⟨g, c, E⟩ :: L) (M.eraseIdx r) ∧ n = l.length ∧ n ≤ cap ∧ cap ≤ maxLen ∧ c.length = cap * k ∧ c.take (n * k) = el.flatten ∧ AllR (R F) el l ∧ (∀ x ∈ el, x.length = k) ∧ base ≤ g := by
  have hown := S.own hM
  obtain ⟨hi, he⟩ := List.getElem?_eq_some_iff.1 hM
  have hm : ownP k R hR E base (.slice (some ⟨g, 0, none⟩) n cap) l ∈ M := by rw [← he]; exact List.getElem_mem hi
  obtain ⟨el, ⟨e1, e2⟩, h2, h3⟩ := hown.ex
  have hsub := List.eraseIdx_sublist M r
  have hr0 := (S.row _ hm).2 g rfl
  rcases e2 with ⟨e2, _⟩ | ⟨g', cap', cur, e2, q0, hg, q1, q2, q3, q4⟩
  · cases e2
  · injection e2 with e2 e2n e2c
    injection e2 with e2
    injection e2 with e2
    subst e2; subst e2n; subst e2c
    refine ⟨cur.toList, el, ⟨S.gr, fun x hx => ?_, fun s hs => S.row s (hsub.subset hs), ?_, fun s hs x hx => ?_, S.rr.sublist hsub⟩, rfl, q1, q2, by simpa using q3, q4, h2, h3, q0⟩
    · rcases List.mem_cons.1 hx with rfl | hx
      · exact ⟨by simpa using hg, hr0.2.1, hr0.2.2⟩
      · exact S.blk x hx
    · exact List.pairwise_cons.2 ⟨fun x hx e => S.rb _ hm x hx (congrArg some e), S.bb⟩
    · rcases List.mem_cons.1 hx with rfl | hx
      · exact S.other hM s hs g rfl
      · exact S.rb s (hsub.subset hs) x hx
end
end Go.Proofs.YtajmjolgphadoaaDoor
namespace Go.Proofs.YtajmjolgphadoaaDoor
open Go.RowKit
section
variable {k i n : Nat} {c zs vs : List Value} {el : List (List Value)}
variable (h3 : ∀ x ∈ el, x.length = k) (hc : c.take (n * k) = el.flatten)
include h3 hc
end
theorem St.src {w0 w : World} {F0 F : Fz} {L : List Blk} {M : List RowP} (S : St w0 F0 w F L M) {i n : Nat} {c : List Value} {T : TypeId} (hL : L[i]? = some ⟨n, c, T⟩) (j m : Nat) : ∀ q u, ((c.drop j).take m)[q]? = some u → w.cell? ((⟨n, j, none⟩ : Addr).add q) = some u := by
  intro q u hu
  rw [Addr.add_mid]
  rw [List.getElem?_take] at hu
  split at hu
  · rw [List.getElem?_drop] at hu
    exact S.cell hL hu
  · cases hu
end Go.Proofs.YtajmjolgphadoaaDoor
namespace Go.Proofs.YtajmjolgphadoaaDoor
open Go.RowKit
set_option linter.unusedVariables false
section
variable {P : Program} {ρ : Operand → Value} {w : World} {d : Option Tmp} {t X Y : TypeId} {pos : String} {after : Array Edge} {guard : Option (Nat × Bool)} {x y : Operand} {l m : List UInt8}
def strB (op : BinOp) (l m : List UInt8) : Bool := match op with | .lss => Op.bytesLess l m | .leq => Op.bytesLess l m || l == m | .gtr => !(Op.bytesLess l m || l == m) | .geq => !Op.bytesLess l m | .eql => l == m | _ => !(l == m)
theorem ex_strop {op : BinOp} {b : Bool} (hop : op = .lss ∨ op = .leq ∨ op = .gtr ∨ op = .geq ∨ op = .eql ∨ op = .neq) (hx : ρ x = .string ⟨l.toArray⟩) (hy : ρ y = .string ⟨m.toArray⟩)
    (h : strB op l m = b) :
    (execOp ρ ⟨d, .binOp op X x y Y, t, pos, after, guard⟩).run P w = .ok (.value (.bool b)) w := by
  subst h
  have e : (eqGuard op X x y (.string ⟨l.toArray⟩) (.string ⟨m.toArray⟩)).run P w = .ok () w := by
    unfold eqGuard
    rcases hop with rfl | rfl | rfl | rfl | rfl | rfl <;> rfl
  have e2 : (binOp op X (.string ⟨l.toArray⟩) (.string ⟨m.toArray⟩)).run P w = .ok (.bool (strB op l m)) w := by
    rcases hop with rfl | rfl | rfl | rfl | rfl | rfl <;> simp [binOp, Op.stringOp, strB]
  simp only [execOp, hx, hy, Sem.run_bind, e, Result.andThen_ok, e2, Sem.run_pure]
theorem ex_convert {v r : Value} (hx : ρ x = v) (h : (convert X Y v).run P w = .ok r w) : (execOp ρ ⟨d, .convert X Y x, t, pos, after, guard⟩).run P w = .ok (.value r) w := by
  subst hx
  simp only [execOp, Sem.run_bind, h, Result.andThen_ok, Sem.run_pure]
end
section
variable {P : Program} {ρ : Operand → Value} {w : World} {d : Option Tmp} {t X T : TypeId} {pos : String} {after : Array Edge} {guard : Option (Nat × Bool)} {x y : Operand} {k : IntKind} {m n r : Int}
theorem ex_slice3_0 {E : TypeId} {A : Option Addr} {n c : Nat} {hi mx : Operand} {h m : Nat} {sz : Nat} {v : Value} (hX : P.underlying X = some (.slice E)) (hx : ρ x = .slice A n c) (hsz : (sizeOf E).run P w = .ok sz w)
    (hh : ρ hi = .int .i64 h) (hm : ρ mx = .int .i64 m) (h2 : h ≤ m) (h3 : m ≤ c)
    (hv : v = .slice A h m) : (execOp ρ ⟨d, .slice X x none (some hi) (some mx), t, pos, after, guard⟩).run P w = .ok (.value v) w := by
  subst hv
  have b1 : ∀ (z y : Nat) (code : BoundsCode), z ≤ y → (Instr.sliceBound (.int .i64 z) y code).run P w = .ok z w := by
    intro z y code hzy
    have : (0 : Int) ≤ (z : Int) ∧ (z : Int) ≤ (y : Int) := by omega
    simp [Instr.sliceBound, asIntOf, this]
  have hb : (Instr.sliceBounds true n c none (some (ρ hi)) (some (ρ mx))).run P w = .ok (0, h, m) w := by
    simp [Instr.sliceBounds, hh, hm, b1 _ _ _ h2, b1 _ _ _ h3]
  have ha : (if m = 0 then A else A.map (·.add (0 * sz))) = A := by
    have : A.map (·.add (0 * sz)) = A := by cases A <;> simp [Addr.add]
    rw [this]; split <;> rfl
  have hs : (Instr.sliceAt X (.slice A n c) none (some (ρ hi)) (some (ρ mx))).run P w = .ok (.slice A h m) w := by
    simp only [Instr.sliceAt, Sem.run_bind, run_underlying hX w, Result.andThen_ok, Instr.slice, hb, hsz, Sem.run_pure, Nat.sub_zero, ha]
  simp [execOp, hx, hs]
end
/-- A block of structs that is done with. -/
theorem sl_of_block {α : Type} {k : Nat} {R : Fz → List Value → α → Prop} {F : Fz} {n : Nat} {c : List Value} {el : List (List Value)} {l : List α} (h : ∀ j v, c[j]? = some v → cellF F n j = some v) (e : c = el.flatten) (hR : AllR (R F) el l) (hk : ∀ x ∈ el, x.length = k) (hl : l.length ≤ maxLen) : Sl k R F (.slice (some ⟨n, 0, none⟩) l.length l.length) l := by
  subst e
  exact ⟨el, Rw.of_cells (Nat.le_refl _) hl fun j u hu => by rw [Nat.zero_add]; exact h j u hu, hR, hk⟩
end Go.Proofs.YtajmjolgphadoaaDoor
namespace Go.Proofs.YtajmjolgphadoaaDoor
open Go.RowKit
set_option maxRecDepth 100000
theorem nagg_3 (w : World) : (isAgg 3).run Tryd.prog w = .ok false w := by kernel_rfl
theorem size_3 : (Tryd.prog.info? 3).map (·.size) = some 1 := by kernel_rfl
theorem zero_3 (w : World) : (zeroValue 3).run Tryd.prog w = .ok (.int .i64 0) w := by kernel_rfl
theorem nagg_5 (w : World) : (isAgg 5).run Tryd.prog w = .ok false w := by kernel_rfl
theorem sizeof_5 (w : World) : (sizeOf 5).run Tryd.prog w = .ok 1 w := by kernel_rfl
theorem nagg_25 (w : World) : (isAgg 25).run Tryd.prog w = .ok false w := by kernel_rfl
theorem size_25 : (Tryd.prog.info? 25).map (·.size) = some 1 := by kernel_rfl
theorem zero_25 (w : World) : (zeroValue 25).run Tryd.prog w = .ok (.int .i64 0) w := by kernel_rfl
theorem nagg_27 (w : World) : (isAgg 27).run Tryd.prog w = .ok false w := by kernel_rfl
theorem size_27 : (Tryd.prog.info? 27).map (·.size) = some 1 := by kernel_rfl
theorem nagg_43 (w : World) : (isAgg 43).run Tryd.prog w = .ok false w := by kernel_rfl
theorem size_43 : (Tryd.prog.info? 43).map (·.size) = some 1 := by kernel_rfl
theorem zero_43 (w : World) : (zeroValue 43).run Tryd.prog w = .ok (.slice none 0 0) w := by kernel_rfl
theorem size_50 : (Tryd.prog.info? 50).map (·.size) = some 4 := by kernel_rfl
theorem zero_50 (w : World) : (zeroValue 50).run Tryd.prog w = .ok (.agg #[.int .i64 0, .int .i64 0, .int .i64 0, .slice none 0 0]) w := by kernel_rfl
theorem sizeof_50 (w : World) : (sizeOf 50).run Tryd.prog w = .ok 4 w := by kernel_rfl
theorem info_50 : (Tryd.prog.info? 50).map (fun i => (i.zero, i.size, i.bytes)) = some (some (.agg #[.int .i64 0, .int .i64 0, .int .i64 0, .slice none 0 0]), 4, 48) := by kernel_rfl
theorem fa_50_0 (b o : Nat) (w : World) : (Instr.fieldAt 50 (.pointer (some ⟨b, o, none⟩)) 0).run Tryd.prog w = .ok (.pointer (some ⟨b, o, none⟩)) w := by go_simp
theorem fa_50_1 (b o : Nat) (w : World) : (Instr.fieldAt 50 (.pointer (some ⟨b, o, none⟩)) 1).run Tryd.prog w = .ok (.pointer (some ⟨b, o + 1, none⟩)) w := by go_simp
theorem fa_50_2 (b o : Nat) (w : World) : (Instr.fieldAt 50 (.pointer (some ⟨b, o, none⟩)) 2).run Tryd.prog w = .ok (.pointer (some ⟨b, o + 2, none⟩)) w := by go_simp
theorem fa_50_3 (b o : Nat) (w : World) : (Instr.fieldAt 50 (.pointer (some ⟨b, o, none⟩)) 3).run Tryd.prog w = .ok (.pointer (some ⟨b, o + 3, none⟩)) w := by go_simp
theorem size_66 : (Tryd.prog.info? 66).map (·.size) = some 3 := by kernel_rfl
theorem sizeof_66 (w : World) : (sizeOf 66).run Tryd.prog w = .ok 3 w := by kernel_rfl
theorem fa_66_0 (b o : Nat) (w : World) : (Instr.fieldAt 66 (.pointer (some ⟨b, o, none⟩)) 0).run Tryd.prog w = .ok (.pointer (some ⟨b, o, none⟩)) w := by go_simp
theorem fa_66_1 (b o : Nat) (w : World) : (Instr.fieldAt 66 (.pointer (some ⟨b, o, none⟩)) 1).run Tryd.prog w = .ok (.pointer (some ⟨b, o + 1, none⟩)) w := by go_simp
theorem fa_66_2 (b o : Nat) (w : World) : (Instr.fieldAt 66 (.pointer (some ⟨b, o, none⟩)) 2).run Tryd.prog w = .ok (.pointer (some ⟨b, o + 2, none⟩)) w := by go_simp
theorem ent_13 (vs : Array Value) (w : World) : (callFunc 13 vs).run Tryd.prog w = .ok (.enter 13 vs) w := by kernel_rfl
theorem ent_14 (vs : Array Value) (w : World) : (callFunc 14 vs).run Tryd.prog w = .ok (.enter 14 vs) w := by kernel_rfl
theorem ent_15 (vs : Array Value) (w : World) : (callFunc 15 vs).run Tryd.prog w = .ok (.enter 15 vs) w := by kernel_rfl
theorem ent_16 (vs : Array Value) (w : World) : (callFunc 16 vs).run Tryd.prog w = .ok (.enter 16 vs) w := by kernel_rfl
theorem ent_24 (vs : Array Value) (w : World) : (callFunc 24 vs).run Tryd.prog w = .ok (.enter 24 vs) w := by kernel_rfl
theorem ent_25 (vs : Array Value) (w : World) : (callFunc 25 vs).run Tryd.prog w = .ok (.enter 25 vs) w := by kernel_rfl
theorem ent_27 (vs : Array Value) (w : World) : (callFunc 27 vs).run Tryd.prog w = .ok (.enter 27 vs) w := by kernel_rfl
theorem ent_30 (vs : Array Value) (w : World) : (callFunc 30 vs).run Tryd.prog w = .ok (.enter 30 vs) w := by kernel_rfl
theorem ent_46 (vs : Array Value) (w : World) : (callFunc 46 vs).run Tryd.prog w = .ok (.enter 46 vs) w := by kernel_rfl
theorem ent_9 (vs : Array Value) (w : World) : (callFunc 9 vs).run Tryd.prog w = .ok (.enter 9 vs) w := by kernel_rfl
end Go.Proofs.YtajmjolgphadoaaDoor
namespace Go.Proofs.YtajmjolgphadoaaDoor
open Go.ChangeShapes Go.WideShapes Go.ChangeAt Go.RowKit Go.Deep
section
variable {H : Type} {enc : TypeId × Value → H} {P : Program} {w : World}
end
end Go.Proofs.YtajmjolgphadoaaDoor
namespace Go.Proofs.YtajmjolgphadoaaDoor
open Go.RowKit
set_option maxRecDepth 100000
set_option linter.unusedVariables false
end Go.Proofs.YtajmjolgphadoaaDoor
namespace Go.Proofs.YtajmjolgphadoaaDoor
open Go.RowKit
end Go.Proofs.YtajmjolgphadoaaDoor
namespace Go.Proofs.YtajmjolgphadoaaDoor
open Go.RowKit
end Go.Proofs.YtajmjolgphadoaaDoor
namespace Go.Proofs.YtajmjolgphadoaaDoor
open Go.RowKit
set_option maxRecDepth 100000
set_option linter.unusedVariables false
set_option linter.unusedSimpArgs false
end Go.Proofs.YtajmjolgphadoaaDoor
namespace Go.Proofs.YtajmjolgphadoaaDoor
open Go.RowKit
set_option maxRecDepth 100000
set_option linter.unusedVariables false
set_option linter.unusedSimpArgs false
end Go.Proofs.YtajmjolgphadoaaDoor
namespace Go.Proofs.YtajmjolgphadoaaDoor
open Go.RowKit
set_option maxRecDepth 100000
set_option linter.unusedVariables false
set_option linter.unusedSimpArgs false
end Go.Proofs.YtajmjolgphadoaaDoor
namespace Go.Proofs.YtajmjolgphadoaaDoor
open Go.RowKit
set_option maxRecDepth 100000
set_option linter.unusedVariables false
set_option linter.unusedSimpArgs false
/-- A finding. -/
def FndV (F : Fz) (u : Value) (o : Option By) : Prop := ∃ a c, u = .agg #[.bool o.isSome, .slice a (o.getD []).length c] ∧ Bs F (.slice a (o.getD []).length c) (o.getD [])
theorem FndV.mono {F F' : Fz} {u : Value} {o : Option By} (h : FndV F u o) (hl : Le F F') : FndV F' u o := by
  obtain ⟨a, c, rfl, h1⟩ := h; exact ⟨a, c, rfl, h1.mono hl⟩
end Go.Proofs.YtajmjolgphadoaaDoor
namespace Go.Proofs.YtajmjolgphadoaaDoor
open Go.RowKit
set_option linter.unusedVariables false
section
variable {α : Type} {k E base : Nat} {R : Fz → List Value → α → Prop} {w : World} {F : Fz} {l : List α}
theorem Own.at {a : Option Addr} {n c : Nat} (h : Own k R E base w F (.slice a n c) l) {i : Nat} {p : α} (hp : l[i]? = some p) : ∃ g cs, a = some ⟨g, 0, none⟩ ∧ cs.length = k ∧ R F cs p ∧ w.rangeAt g (i * k) cs := by
  obtain ⟨hi, rfl⟩ := List.getElem?_eq_some_iff.1 hp
  obtain ⟨el, ⟨e1, e2⟩, h2, h3⟩ := h.ex
  have hll := h2.len
  rcases e2 with ⟨e2, h0⟩ | ⟨g, cap, cur, e2, q0, hg, q1, q2, q3, q4⟩
  · omega
  · injection e2 with e2
    refine ⟨g, el[i]'(by omega), e2, h3 _ (List.getElem_mem _), h2.get i (by omega) hi, fun j u hu => ?_⟩
    have hj : j < k := by
      have := (List.getElem?_eq_some_iff.1 hu).1
      rwa [h3 _ (List.getElem_mem _)] at this
    have hf := flatten_at h3 i (by omega) j hj
    rw [← q4, List.getElem?_take] at hf
    rw [← hf] at hu
    split at hu
    · simp only [World.cell?, hg]; simpa using hu
    · cases hu
theorem Own.len {a : Option Addr} {n c : Nat} (h : Own k R E base w F (.slice a n c) l) : n = l.length := by
  obtain ⟨a', c', e, _⟩ := h.shape
  injection e
end
/-- A literal of one element, in a region that draws its order. -/
theorem does_lit {P : Program} {o : Oper} {a : Act} {W w : World} {F F1 : Fz} {α : Type} {k : Nat} {R : Fz → List Value → α → Prop} {hR : ∀ F F' x p, Le F F' → R F x p → R F' x p} {cs : List Value} {p : α} {E : TypeId} (g : Gr W F w F1) (hp : R F1 cs p) (hk : cs.length = k)
    (hr : (execOp a.eval o).run P w = .ok (.value (.slice (some ⟨w.heap.size, 0, none⟩) 1 1)) (w.alloc (.cells cs.toArray E))) : Does P o a w (RelPost (Made W F fun F' u => Sl k R F' u [p]) w) := by
  unfold Does
  rw [hr]
  have g2 := g.new (.cells cs.toArray E)
  have g3 := g2.add (g := w.heap.size) g.below.size
  have hle : Le F1 (addF F1 (w.alloc (.cells cs.toArray E)) w.heap.size) := fun b o hb => addF_le _ _ _ _ _ hb
  refine ⟨⟨_, g3, sl_of_block (R := R) (l := [p]) (c := cs) (el := [cs]) (fun j v hj => ?_) (by simp) ⟨hR _ _ _ _ hle hp, trivial⟩ (by simpa using hk) (show [p].length ≤ maxLen by simp [maxLen])⟩, (Below.refl _ _).alloc (Nat.le_refl _) _⟩
  unfold cellF addF
  rw [g.sat.out (Nat.le_refl _)]
  simp only [if_true, heap_alloc_new]
  simpa using hj
/-! A block that is made in a region that draws its order. -/
def NewAt (W : World) (cs : List Value) (T : TypeId) (v : Value) (w : World) : Prop := ∃ n, v = .pointer (some ⟨n, 0, none⟩) ∧ W.heap.size ≤ n ∧ w.heap[n]? = some (.cells cs.toArray T (0, 0))
theorem NewAt.stable (W : World) (cs : List Value) (T : TypeId) : ∀ v w w', NewAt W cs T v w → Below w.heap.size w w' → NewAt W cs T v w' := by
  rintro v w w' ⟨n, h1, h2, h3⟩ hb
  exact ⟨n, h1, h2, heap_kept hb h3⟩
theorem wanted_un {o oj : Oper} {ops : Array Oper} {tmps : Array Value} {j d : Nat} {b : Bool} (hg : o.guard = some (j, b)) (hj : ops[j]? = some oj) (hd : oj.dst = some d) (hv : tmps.getD d undef = undef) : Region.wanted o (yielded ops tmps) = false := by
  rw [Array.getD_eq_getD_getElem?] at hv
  simp only [Region.wanted, hg, yielded, hj]
  cases h : tmps[d]? with
  | none => simp [h, hd]
  | some x => rw [h] at hv; simp at hv; subst hv; simp [h, hd, undef]
end Go.Proofs.YtajmjolgphadoaaDoor
namespace Go.Proofs.YtajmjolgphadoaaDoor
open Go.RowKit
set_option maxRecDepth 100000
set_option linter.unusedVariables false
set_option linter.unusedSimpArgs false
end Go.Proofs.YtajmjolgphadoaaDoor
namespace Go.Proofs.YtajmjolgphadoaaDoor
open Go.RowKit
set_option maxRecDepth 100000
set_option linter.unusedVariables false
set_option linter.unusedSimpArgs false
theorem PrC.one (F : Fz) (cs : List Value) (p : Pr) (h : PrC F cs p) : ∀ u ∈ cs, u.oneCell' = true := h.oneCell
def PrsE (r : List Pr) (e : Int) (F : Fz) (u : Value) : Prop := ∃ x, u = .tuple #[x, .int .i64 e] ∧ Prs F x r
theorem PrsE.mono {F F' : Fz} {u : Value} {r : List Pr} {e : Int} (h : PrsE r e F u) (hl : Le F F') : PrsE r e F' u := by
  obtain ⟨x, rfl, h1⟩ := h; exact ⟨x, rfl, h1.mono hl⟩
theorem Sl.dropAny {α : Type} {k : Nat} {R : Fz → List Value → α → Prop} {F : Fz} {a : Option Addr} {n c m : Nat} {l : List α} (hk : 0 < k) (h : Sl k R F (.slice a n c) l) (hm : m ≤ n) : Sl k R F (.slice (if c = m then a else a.map (·.add (m * k))) (n - m) (c - m)) (l.drop m) := by
  have hn := Sl.len h
  obtain ⟨el, h1, h2, h3⟩ := h
  obtain ⟨a0, c0, e1, q1, q2, q3, q4⟩ := h1
  injection e1 with e1 e2 e3
  subst e1; subst e3
  have hll := h2.len
  by_cases hmn : m = l.length
  · have e : l.drop m = [] := List.drop_of_length_le (by omega)
    have e0 : n - m = 0 := by omega
    rw [e, e0]
    refine ⟨[], ⟨_, c - m, rfl, by simp, by omega, fun e => ?_, .inl rfl⟩, trivial, by simp⟩
    cases a with
    | none => have := q3 rfl; exact ⟨rfl, by omega⟩
    | some ad => split at e <;> cases e
  · have hpos : el.flatten ≠ [] := by
      intro e
      have := congrArg List.length e
      rw [flatten_len h3, hll] at this
      have := Nat.mul_pos (show 0 < l.length by omega) hk
      simp at *
      omega
    obtain ⟨b, o, e, hc⟩ := q4.resolve_left hpos
    subst e
    rw [if_neg (by omega)]
    have hs : Sl k R F (.slice (some ⟨b, o, none⟩) n c) l := ⟨el, ⟨_, _, by rw [hn], q1, q2, q3, .inr ⟨b, o, rfl, hc⟩⟩, h2, h3⟩
    have := Sl.dropN (m := m) hs hm rfl rfl
    show Sl k R F (.slice (some (Addr.add ⟨b, o, none⟩ (m * k))) _ _) _
    rw [Addr.add_mid]
    exact this
end Go.Proofs.YtajmjolgphadoaaDoor
namespace Go.Proofs.YtajmjolgphadoaaDoor
open Go.RowKit
set_option maxRecDepth 100000
set_option linter.unusedVariables false
set_option linter.unusedSimpArgs false
end Go.Proofs.YtajmjolgphadoaaDoor
namespace Go.Proofs.YtajmjolgphadoaaDoor
open Go.RowKit
end Go.Proofs.YtajmjolgphadoaaDoor
namespace Go.Proofs.YtajmjolgphadoaaDoor
open Go.RowKit
set_option maxRecDepth 100000
set_option linter.unusedVariables false
set_option linter.unusedSimpArgs false
end Go.Proofs.YtajmjolgphadoaaDoor
namespace Go.Proofs.YtajmjolgphadoaaDoor
open Go.RowKit
set_option maxRecDepth 100000
set_option linter.unusedVariables false
set_option linter.unusedSimpArgs false
end Go.Proofs.YtajmjolgphadoaaDoor
namespace Go.Proofs.YtajmjolgphadoaaDoor
open Go.RowKit
set_option maxRecDepth 100000
set_option linter.unusedVariables false
set_option linter.unusedSimpArgs false
end Go.Proofs.YtajmjolgphadoaaDoor
namespace Go.Proofs.YtajmjolgphadoaaDoor
open Go.RowKit
set_option maxRecDepth 100000
set_option linter.unusedVariables false
set_option linter.unusedSimpArgs false
end Go.Proofs.YtajmjolgphadoaaDoor
namespace Go.Proofs.YtajmjolgphadoaaDoor
open Go.RowKit
set_option maxRecDepth 100000
set_option linter.unusedVariables false
set_option linter.unusedSimpArgs false
theorem TnC.one (F : Fz) (cs : List Value) (p : By × List Pr) (h : TnC F cs p) : ∀ u ∈ cs, u.oneCell' = true := h.oneCell
end Go.Proofs.YtajmjolgphadoaaDoor
namespace Go.Proofs.YtajmjolgphadoaaDoor
open Go.RowKit
set_option maxRecDepth 100000
set_option linter.unusedVariables false
set_option linter.unusedSimpArgs false
end Go.Proofs.YtajmjolgphadoaaDoor
namespace Go.Proofs.YtajmjolgphadoaaDoor
open Go.RowKit
set_option maxRecDepth 100000
set_option linter.unusedVariables false
set_option linter.unusedSimpArgs false
end Go.Proofs.YtajmjolgphadoaaDoor
namespace Go.Proofs.YtajmjolgphadoaaDoor
open Go.RowKit
set_option maxRecDepth 100000
set_option linter.unusedVariables false
set_option linter.unusedSimpArgs false
end Go.Proofs.YtajmjolgphadoaaDoor
namespace Go.Proofs.YtajmjolgphadoaaDoor
open Go.RowKit
set_option maxRecDepth 100000
set_option linter.unusedVariables false
set_option linter.unusedSimpArgs false
end Go.Proofs.YtajmjolgphadoaaDoor
namespace Go.Proofs.YtajmjolgphadoaaDoor
open Go.RowKit
set_option maxRecDepth 100000
set_option linter.unusedVariables false
set_option linter.unusedSimpArgs false
end Go.Proofs.YtajmjolgphadoaaDoor
namespace Go.Proofs.YtajmjolgphadoaaDoor
open Go.RowKit
set_option linter.unusedVariables false
section
variable {α β : Type} {k k2 E E2 base base2 : Nat} {R : Fz → List Value → α → Prop} {R2 : Fz → List Value → β → Prop} {w0 W w w' : World} {F0 F F' : Fz} {L : List Blk} {M : List RowP} {v v2 : Value} {l : List α} {l2 : List β}
/-- What a call has made that is a row of its own. -/
def MadeO {α : Type} (W : World) (F : Fz) (k : Nat) (R : Fz → List Value → α → Prop) (E : Nat) (l : List α) (v : Value) (w : World) : Prop := ∃ F', Gr W F w F' ∧ Own k R E W.heap.size w F' v l
theorem MadeO.stable (hR : ∀ F F' x p, Le F F' → R F x p → R F' x p) (W : World) (F : Fz) (k E : Nat) (l : List α) : Stable (MadeO W F k R E l) :=
  fun v w w' ⟨F', g, h⟩ hb => ⟨F', g.trans (Gr.of_below g.sat hb), h.gr hR g.sat (Gr.of_below g.sat hb)⟩
end
section
variable {w : World} {F : Fz} {n : Nat} {cs : List Value} {T : TypeId}
end
end Go.Proofs.YtajmjolgphadoaaDoor
namespace Go.Proofs.YtajmjolgphadoaaDoor
open Go.RowKit
set_option linter.unusedVariables false
section
variable {P : Program} {ops : Array Oper} {md : Region.Mode} {C : World → Prop} {Sp : Nat → OpSpec}
/-- The walk in an order of our own. -/
def wpGP (P : Program) (md : Region.Mode) (ops : Array Oper) (C : World → Prop) (Sp : Nat → OpSpec) (Lq : Act → Vals → Prop) : List (Nat × Oper) → Act → Vals → Prop
  | [], a, Vs => Lq a Vs
  | (k, o) :: l, a, Vs => if Region.wanted o (yielded ops a.tmps) = true then ∃ S, Ob P md ops C Sp k o a Vs S ∧ ∀ v, S v → wpGP P md ops C Sp Lq l (a.put o.dst v) (next (Sp k) Vs k v) else wpGP P md ops C Sp Lq l (a.put o.dst undef) Vs
end
structure GP (P : Program) (md : Region.Mode) (ops : Array Oper) (C : World → Prop) (Sp : Nat → OpSpec) (Lq : Act → Vals → Prop) (l : List (Nat × Oper)) (a : Act) (Vs : Vals) : Prop where
  out : wpGP P md ops C Sp Lq l a Vs
section
variable {P : Program} {ops : Array Oper} {md : Region.Mode} {C : World → Prop} {Sp : Nat → OpSpec} {Lq : Act → Vals → Prop} {o : Oper} {l : List (Nat × Oper)} {k : Nat} {a : Act} {Vs : Vals}
end
/-! Late. -/
/-- The store, behind which nothing of the region is left to look at the memory. -/
structure LT (P : Program) (ops : Array Oper) (Q : Exit → Act → World → Prop) (os : Oper) (rest : List Oper) (a : Act) (w : World) : Prop where
  out : ∃ w', os.guard = none ∧ os.dst = none ∧ (execOp a.eval os).run P w = .ok .skip w' ∧ wpList P ops Q rest a w'
section
variable {P : Program} {ops : Array Oper} {md : Region.Mode} {C : World → Prop} {Sp : Nat → OpSpec}
def wpAnyH (P : Program) (md : Region.Mode) (ops : Array Oper) (C : World → Prop) (Sp : Nat → OpSpec) (s : Nat) (L E : Array Bool → Act → Vals → Prop) : Nat → Array Bool → Act → Vals → Prop
  | 0, listed, a, Vs => L listed a Vs
  | f + 1, listed, a, Vs => Region.ready md ops listed ≠ [] ∧ ∀ i ∈ Region.ready md ops listed, (i ≠ s → gOp P md ops C Sp i (wpAnyH P md ops C Sp s L E f (listed.setIfInBounds i true)) a Vs) ∧ (i = s → f = 0 ∧ E listed a Vs)
end
section
variable {P : Program} {ops : Array Oper} {md : Region.Mode} {C : World → Prop} {Sp : Nat → OpSpec}
end
section
variable {w : World} {F : Fz} {n : Nat} {cs : List Value} {T : TypeId}
end
end Go.Proofs.YtajmjolgphadoaaDoor
namespace Go.Proofs.YtajmjolgphadoaaDoor
open Go.RowKit
set_option maxRecDepth 100000
set_option linter.unusedVariables false
set_option linter.unusedSimpArgs false
theorem Sl.cap {α : Type} {k : Nat} {R : Fz → List Value → α → Prop} {F : Fz} {a : Option Addr} {n c c' : Nat} {l : List α} (h : Sl k R F (.slice a n c) l) (h1 : n ≤ c') (h2 : c' ≤ c) : Sl k R F (.slice a n c') l := by
  have hn := Sl.len h
  obtain ⟨xs, ⟨a', c0, e1, q1, q2, q3, q4⟩, hr, hk⟩ := h
  injection e1 with e1 e2 e3
  subst e1 e3
  exact ⟨xs, ⟨a, c', by rw [hn], by omega, by omega, fun h => by have := q3 h; omega, q4⟩, hr, hk⟩
theorem HistOk.grow {m n : Nat} {cs : List Cm} (h : HistOk m cs) (hm : m ≤ n) : HistOk n cs := ⟨h.turn, h.ok, Nat.le_trans h.size hm, h.fits⟩
end Go.Proofs.YtajmjolgphadoaaDoor
namespace Go.Proofs.YtajmjolgphadoaaDoor
open Go.RowKit
set_option linter.unusedVariables false
structure HL (P : Program) (ops : Array Oper) (Q : Exit → Act → World → Prop) (F : Fz) (fuel : Nat) (listed : Array Bool) (a : Act) (w : World) : Prop where
  out : Go.wpAnyH P .any ops Q (fun w => Sat w F) fuel listed a w
section
variable {P : Program} {ops : Array Oper} {Q : Exit → Act → World → Prop} {F : Fz} {fuel : Nat} {listed : Array Bool} {a : Act} {w : World} {o : Oper}
theorem Oper.wp_exit {K K' : Act → World → Prop} (hh : o.wp P a w K (Exit.then K' Q)) : o.wp P a w K Q := by
  unfold Oper.wp at *
  generalize (execOp a.eval o).run P w = r at *
  cases r with
  | ok n w' =>
    cases n <;> simp only [Oper.upon] at hh ⊢ <;> try exact hh
  | halt x w' => cases x <;> exact hh
end
end Go.Proofs.YtajmjolgphadoaaDoor
namespace Go.Proofs.YtajmjolgphadoaaDoor
open Go.ChangeShapes Go.WideShapes Go.ChangeAt Go.RowKit Go.Deep
set_option maxRecDepth 100000
theorem laidVars_at {P : Program} {W : World} : ∀ {l : List (String × DataW Unit)} {ps : List MemPlace}, DataW.LaidVars P W l ps → ∀ (i : Nat) (n : String) (d : DataW Unit), l[i]? = some (n, d) →
    ∃ g t cs fuel p, P.globalNamed n = some g ∧ (P.globals[g]?).map (·.type) = some t ∧ W.var? P n = some cs ∧ DataW.trod (fun _ => ()) P W 0 (fun _ => true) false fuel t cs.toList = some (d, p)
  | [], _, _, i, n, d, hi => by simp at hi
  | (n', d') :: r, ps, h, i, n, d, hi => by
    obtain ⟨g, t, cs, fuel, p, q, h1, h2, h3, h4, h5, h6⟩ := h
    cases i with
    | zero =>
      simp only [List.getElem?_cons_zero, Option.some.injEq, Prod.mk.injEq] at hi
      obtain ⟨rfl, rfl⟩ := hi
      exact ⟨g, t, cs, fuel, p, h1, h2, h3, h4⟩
    | succ i => exact laidVars_at h5 i n d (by simpa using hi)
theorem tabIs_at {P : Program} {W : World} {l : List (String × DataW Unit)} (h : laidMet P l W) (i : Nat) (name : String) (k : IntKind) (zs : List Int) {g : Nat} {t e : TypeId} {n : Nat}
    (hi : l[i]? = some (name, Lib.tabData k zs))
    (hg : P.globalNamed name = some g) (hty : (P.globals[g]?).map (·.type) = some t) (ht : P.underlying t = some (.array n e)) (he : P.underlying e = some (.int k)) (hce : P.cellsOf e = 1) (hct : P.cellsOf t = n) : Lib.TabIs P W name k zs := by
  obtain ⟨ps, hv, _, _⟩ := h
  obtain ⟨g', t', cs, fuel, p, hg', ht', hvar, hd⟩ := laidVars_at hv i name _ hi
  obtain rfl := Option.some.inj (hg.symm.trans hg')
  obtain rfl := Option.some.inj (hty.symm.trans ht')
  unfold Lib.TabIs
  rw [hvar, ← Lib.cells_of_tab ht he hce hct hd]
end Go.Proofs.YtajmjolgphadoaaDoor
namespace Go.Proofs.YtajmjolgphadoaaDoor
open Go.RowKit
set_option maxRecDepth 100000
set_option linter.unusedVariables false
set_option linter.unusedSimpArgs false
def ByC (F : Fz) (cs : List Value) (b : UInt8) : Prop := cs = [bv b]
theorem ByC.mono (F F' : Fz) (x : List Value) (p : UInt8) (hl : Le F F') (h : ByC F x p) : ByC F' x p := h
theorem bv_one (b : UInt8) : ∀ u ∈ [bv b], u.oneCell' = true := by intro u hu; rw [List.mem_singleton.1 hu]; rfl
theorem ByC.one (F : Fz) (cs : List Value) (p : UInt8) (h : ByC F cs p) : ∀ u ∈ cs, u.oneCell' = true := by rw [h]; exact bv_one p
theorem bytes_flat : ∀ l : By, ((l.map fun b => [bv b]).flatten) = l.map bv
  | [] => rfl
  | b :: l => by simp [bytes_flat l]
theorem allR_bytes (F : Fz) : ∀ l : By, AllR (ByC F) (l.map fun b => [bv b]) l
  | [] => trivial
  | _ :: l => ⟨rfl, allR_bytes F l⟩
theorem bytes_of : ∀ {xs : List (List Value)} {l : By} {F : Fz}, AllR (ByC F) xs l → xs.flatten = l.map bv
  | [], [], _, _ => rfl
  | x :: xs, b :: l, F, h => by rw [List.flatten_cons, h.1, bytes_of h.2]; rfl
theorem Bs.sl {F : Fz} {v : Value} {l : By} (h : Bs F v l) : Sl 1 ByC F v l := ⟨l.map fun b => [bv b], by rw [bytes_flat]; exact h, allR_bytes F l, by simp⟩
theorem bs_of_sl {F : Fz} {v : Value} {l : By} (h : Sl 1 ByC F v l) : Bs F v l := by
  obtain ⟨xs, h1, h2, _⟩ := h
  rw [bytes_of h2] at h1
  exact h1
theorem Bs.get {F : Fz} {a : Option Addr} {n c : Nat} {l : By} (h : Bs F (.slice a n c) l) {i : Nat} {b : UInt8} (hb : l[i]? = some b) : ∃ g o, a = some ⟨g, o, none⟩ ∧ cellF F g (o + i * 1) = some (bv b) := by
  obtain ⟨a', c', e, _, _, _, h5⟩ := h
  injection e with e1 _ _
  subst e1
  rcases h5 with h5 | ⟨g, o, e, h6⟩
  · rw [List.map_eq_nil_iff] at h5
    subst h5; cases hb
  · exact ⟨g, o, e, by rw [Nat.mul_one]; exact h6 i (bv b) (by rw [List.getElem?_map, hb]; rfl)⟩
end Go.Proofs.YtajmjolgphadoaaDoor
namespace Go.Proofs.YtajmjolgphadoaaDoor
open Go.RowKit
set_option linter.unusedVariables false
/-- A step of a region that draws its order and leaves the world alone. -/
theorem ws_do {P : Program} {ops : Array Oper} {w : World} {Q : Act → Prop} {a : Act} {o : Oper} {rest : List Oper} (hw : Region.wanted o (yielded ops a.tmps) = true) (v : Value) (hr : (execOp a.eval o).run P w = .ok (.value v) w) (h : wpStill P ops w Q rest (a.put o.dst v)) : wpStill P ops w Q (o :: rest) a := by
  refine wpStill_step (fun K hK => ?_)
  rw [if_pos hw]
  unfold Oper.still
  rw [hr]
  exact ⟨rfl, hK _ h⟩
theorem region_still {P : Program} {id : Nat} {Q : Exit → Act → World → Prop} {a : Act} {w : World} {l : List Oper} (n : Nat) (hm : P.follows .mixedOrders = true) (hB : Region.lexTailB .any l.toArray n = true)
    (h : wpStill P l.toArray w.drew (fun a' => WL P l.toArray Q (l.drop n) a' w.drew) (l.take n) a) : (Code.region id l.toArray true).wp P Q a w :=
  wp_region_still_tail n hm hB (by
    have key : ∀ (ls : List Oper) (a : Act), wpStill P l.toArray w.drew (fun a' => WL P l.toArray Q (l.drop n) a' w.drew) ls a → wpStill P l.toArray w.drew (fun a' => wpList P l.toArray Q (l.drop n) a' w.drew) ls a := by
      intro ls
      induction ls with
      | nil => intro a h; exact h.out
      | cons o ls ih =>
        intro a h
        unfold wpStill at h ⊢
        split
        · rename_i hw
          rw [if_pos hw] at h
          revert h
          unfold Oper.still
          generalize (execOp a.eval o).run P w.drew = r
          intro h
          cases r with
          | ok n w' => cases n <;> simp only [Oper.stillUpon] at h ⊢ <;> first | exact ⟨h.1, ih _ h.2⟩ | exact ⟨h.1, by obtain ⟨v, h1, h2⟩ := h.2; exact ⟨v, h1, ih _ h2⟩⟩ | exact h
          | halt x w' => exact h
        · rename_i hw
          rw [if_neg hw] at h
          exact ih _ h
    exact key _ _ h)
end Go.Proofs.YtajmjolgphadoaaDoor
namespace Go.Proofs.YtajmjolgphadoaaDoor
open Go.RowKit
set_option linter.unusedVariables false
set_option linter.unusedSimpArgs false
set_option maxRecDepth 100000
/-- What Atoi hands back, its error aside. -/
def atoiV (l : By) : Int := match Lib.atoiAll l with | .ok v => v | .range => Lib.atoiSat l | _ => 0
theorem parse_append : ∀ (l m : By) (acc : Nat), Lib.parseUint10 acc (l ++ m) = match Lib.parseUint10 acc l with | .ok v => Lib.parseUint10 v m | x => x
  | [], m, acc => rfl
  | c :: r, m, acc => by
    simp only [List.cons_append, Lib.parseUint10]
    split
    · split
      · rfl
      · split
        · rfl
        · exact parse_append r m _
    · rfl
theorem digit_nat {k : Nat} (h : k < 10) : (UInt8.ofNat (48 + k)).toNat = 48 + k := by
  rw [UInt8.toNat_ofNat']
  omega
theorem dec_ne (u : Nat) : Lib.decDigits u ≠ [] := by
  rw [Lib.decDigits]
  split <;> simp
theorem dec_range : ∀ (u : Nat), ∀ c ∈ Lib.decDigits u, 48 ≤ c.toNat ∧ c.toNat ≤ 57 := by
  intro u
  induction u using Nat.strongRecOn with
  | _ u ih =>
    intro c hc
    rw [Lib.decDigits] at hc
    split at hc
    · rename_i h
      rw [List.mem_singleton.1 hc, digit_nat h]; omega
    · rename_i h
      rcases List.mem_append.1 hc with hc | hc
      · exact ih (u / 10) (by omega) c hc
      · rw [List.mem_singleton.1 hc, digit_nat (by omega)]; omega
theorem parse_dec : ∀ (u : Nat), u < 1000000000 → Lib.parseUint10 0 (Lib.decDigits u) = .ok u := by
  intro u
  induction u using Nat.strongRecOn with
  | _ u ih =>
    intro hu
    rw [Lib.decDigits]
    split
    · rename_i h
      simp only [Lib.parseUint10, digit_nat h]
      rw [if_pos (by omega), if_neg (by omega), if_neg (by omega)]
      congr 1; omega
    · rename_i h
      rw [parse_append, ih (u / 10) (by omega) (by omega)]
      simp only [Lib.parseUint10, digit_nat (show u % 10 < 10 by omega)]
      rw [if_pos (by omega), if_neg (by omega), if_neg (by omega)]
      congr 1; omega
theorem atoi_dec (u : Nat) (hu : u < 1000000000) : atoiV (Lib.itoa (u : Int)) = u := by
  have e : Lib.itoa (u : Int) = Lib.decDigits u := by unfold Lib.itoa; rw [if_neg (by omega)]; rfl
  rw [e]
  have hr := dec_range u
  have hp := parse_dec u hu
  unfold atoiV Lib.atoiAll
  cases hd : Lib.decDigits u with
  | nil => exact absurd hd (dec_ne u)
  | cons c r =>
    have hc := hr c (by rw [hd]; exact List.mem_cons_self ..)
    rw [hd] at hp
    simp only
    rw [if_neg (by omega)]
    unfold Lib.parseMag
    rw [if_neg (by simp), hp]
    simp only
    rw [if_neg (by omega), if_neg (by omega), if_neg (by omega)]
theorem itoa_no (n : Nat) : (32 : UInt8) ∉ Lib.itoa (n : Int) := by
  have e : Lib.itoa (n : Int) = Lib.decDigits n := by unfold Lib.itoa; rw [if_neg (by omega)]; rfl
  rw [e]
  intro h
  have := (dec_range n _ h).1
  revert this; decide
/-- A text, cut at its spaces. -/
def sp : By → List By
  | [] => [[]]
  | c :: r => if c = 32 then [] :: sp r else match sp r with | [] => [[c]] | p :: ps => (c :: p) :: ps
theorem sp_one : ∀ {l : By}, (32 : UInt8) ∉ l → sp l = [l]
  | [], _ => rfl
  | c :: r, h => by
    unfold sp
    rw [if_neg (fun e => h (by rw [e]; exact List.mem_cons_self ..)), sp_one fun hm => h (List.mem_cons_of_mem _ hm)]
theorem sp_cut : ∀ {l : By} (m : By), (32 : UInt8) ∉ l → sp (l ++ 32 :: m) = l :: sp m
  | [], m, _ => by
    show sp (32 :: m) = _
    conv => lhs; unfold sp
    rw [if_pos rfl]
  | c :: r, m, h => by
    show sp (c :: (r ++ 32 :: m)) = _
    conv => lhs; unfold sp
    rw [if_neg (fun e => h (by rw [e]; exact List.mem_cons_self ..)), sp_cut m fun hm => h (List.mem_cons_of_mem _ hm)]
theorem sp_ne : ∀ l : By, sp l ≠ []
  | [] => by simp [sp]
  | c :: r => by
    unfold sp
    split
    · simp
    · split <;> simp
/-- Two digits of sixteen. -/
def digs : By := [48, 49, 50, 51, 52, 53, 54, 55, 56, 57, 97, 98, 99, 100, 101, 102]
def hexB (b : UInt8) : By := [(digs[(b >>> 4).toNat]?).getD 0, (digs[(b &&& 15).toNat]?).getD 0]
def hexV (c d : UInt8) : UInt8 := UInt8.ofNat ((Lib.indexByte digs c * 16 + Lib.indexByte digs d % 16) % 256).toNat
def unhex : By → By
  | c :: d :: r => hexV c d :: unhex r
  | _ => []
theorem hex_fin : ∀ i : Fin 256, hexB (UInt8.ofNat i.val) = [(digs[((UInt8.ofNat i.val) >>> 4).toNat]?).getD 0, (digs[((UInt8.ofNat i.val) &&& 15).toNat]?).getD 0] ∧ hexV ((digs[((UInt8.ofNat i.val) >>> 4).toNat]?).getD 0) ((digs[((UInt8.ofNat i.val) &&& 15).toNat]?).getD 0) = UInt8.ofNat i.val ∧ ((digs[((UInt8.ofNat i.val) >>> 4).toNat]?).getD 0) ≠ 32 ∧ ((digs[((UInt8.ofNat i.val) &&& 15).toNat]?).getD 0) ≠ 32 := by decide +kernel
theorem hex_all (b : UInt8) : hexV ((digs[(b >>> 4).toNat]?).getD 0) ((digs[(b &&& 15).toNat]?).getD 0) = b ∧ ((digs[(b >>> 4).toNat]?).getD 0) ≠ 32 ∧ ((digs[(b &&& 15).toNat]?).getD 0) ≠ 32 := by
  have := hex_fin ⟨b.toNat, UInt8.toNat_lt b⟩
  simp only [UInt8.ofNat_toNat] at this
  exact this.2
theorem unhex_hex : ∀ l : By, unhex (l.flatMap hexB) = l
  | [] => rfl
  | b :: l => by
    show unhex (_ :: _ :: l.flatMap hexB) = _
    rw [unhex, unhex_hex l, (hex_all b).1]
theorem hex_no (l : By) : (32 : UInt8) ∉ l.flatMap hexB := by
  intro h
  obtain ⟨b, _, hb⟩ := List.mem_flatMap.1 h
  simp only [hexB, List.mem_cons, List.not_mem_nil, or_false] at hb
  rcases hb with e | e
  · exact (hex_all b).2.1 e.symm
  · exact (hex_all b).2.2 e.symm
/-- One act of a script. -/
structure At where
  kind : Int
  sess : Int
  n : Int
  data : By
  deriving DecidableEq
def words : List By := [[], [97, 115, 107], [115, 121, 110, 99], [99, 114, 97, 115, 104], [115, 116, 97, 114, 116]]
def wordL (k : Int) : By := (words[k.toNat]?).getD []
def lineL (a : At) : By := wordL a.kind ++ (if a.kind = 1 then 32 :: (Lib.itoa a.sess ++ 32 :: a.data.flatMap hexB) else if a.kind = 3 then 32 :: Lib.itoa a.n else []) ++ [10]
/-- What Check finds. -/
def checkA (a : At) : Int :=
  if a.kind < 1 ∨ 4 < a.kind then 5 else
  if (a.kind = 1 ∧ (a.sess < 0 ∨ 8 ≤ a.sess)) ∨ (a.kind = 3 ∧ (a.n < 0 ∨ 200000 < a.n)) then 2 else
  if 4000 < a.data.length then 1 else
  if (a.kind ≠ 1 ∧ (a.sess ≠ 0 ∨ 0 < a.data.length)) ∨ (a.kind ≠ 3 ∧ a.n ≠ 0) then 4 else 0
def trimL (l : By) : By := if l.getLast? = some 10 then l.dropLast else l
def kindL (w : By) : Int := if w = [115, 116, 97, 114, 116] then 4 else if w = [99, 114, 97, 115, 104] then 3 else if w = [115, 121, 110, 99] then 2 else if w = [97, 115, 107] then 1 else 0
/-- What act makes of a line. -/
def actL (line : By) : At :=
  let ps := sp (trimL line)
  let k := kindL (ps.head?.getD [])
  if ps.length < 2 then ⟨k, 0, 0, []⟩ else
  if k = 3 then ⟨3, 0, atoiV ((ps[1]?).getD []), []⟩ else
  if k = 1 then ⟨1, atoiV ((ps[1]?).getD []), 0, unhex (ps.getLast?.getD [])⟩ else ⟨k, 0, 0, []⟩
theorem act_line {a : At} (h : checkA a = 0) : actL (lineL a) = a := by
  obtain ⟨k, s, n, d⟩ := a
  unfold checkA at h
  simp only at h
  split at h
  · cases h
  rename_i h1
  split at h
  · cases h
  rename_i h2
  split at h
  · cases h
  rename_i h3
  split at h
  · cases h
  rename_i h4
  have ht : ∀ x : By, trimL (x ++ [10]) = x := fun x => by unfold trimL; rw [if_pos (by simp)]; simp
  have hk : k = 1 ∨ k = 2 ∨ k = 3 ∨ k = 4 := by omega
  rcases hk with rfl | rfl | rfl | rfl
  · have hn : n = 0 := by omega
    subst hn
    obtain ⟨u, rfl⟩ : ∃ u : Nat, s = u := ⟨s.toNat, by omega⟩
    have hu : u < 8 := by omega
    have e : sp (trimL (lineL ⟨1, (u : Int), 0, d⟩)) = [[97, 115, 107], Lib.itoa (u : Int), d.flatMap hexB] := by
      unfold lineL
      rw [ht, if_pos rfl]
      show sp ([97, 115, 107] ++ 32 :: _) = _
      rw [sp_cut _ (by decide), sp_cut _ (itoa_no u), sp_one (hex_no d)]
    unfold actL
    rw [e]
    simp [kindL, atoi_dec u (by omega), unhex_hex]
  · have hs : s = 0 ∧ n = 0 ∧ d = [] := by
      refine ⟨by omega, by omega, List.eq_nil_of_length_eq_zero (by omega)⟩
    obtain ⟨rfl, rfl, rfl⟩ := hs
    decide +kernel
  · have hs : s = 0 ∧ d = [] := ⟨by omega, List.eq_nil_of_length_eq_zero (by omega)⟩
    obtain ⟨rfl, rfl⟩ := hs
    obtain ⟨u, rfl⟩ : ∃ u : Nat, n = u := ⟨n.toNat, by omega⟩
    have hu : u ≤ 200000 := by omega
    have e : sp (trimL (lineL ⟨3, 0, (u : Int), []⟩)) = [[99, 114, 97, 115, 104], Lib.itoa (u : Int)] := by
      unfold lineL
      rw [ht, if_neg (show ¬ (3 : Int) = 1 by decide), if_pos rfl]
      show sp ([99, 114, 97, 115, 104] ++ 32 :: _) = _
      rw [sp_cut _ (by decide), sp_one (itoa_no u)]
    unfold actL
    rw [e]
    simp [kindL, atoi_dec u (by omega)]
  · have hs : s = 0 ∧ n = 0 ∧ d = [] := by
      refine ⟨by omega, by omega, List.eq_nil_of_length_eq_zero (by omega)⟩
    obtain ⟨rfl, rfl, rfl⟩ := hs
    decide +kernel
end Go.Proofs.YtajmjolgphadoaaDoor
namespace Go.Proofs.YtajmjolgphadoaaDoor
open Go.RowKit
set_option linter.unusedVariables false
set_option linter.unusedSimpArgs false
set_option maxRecDepth 100000
/-- A text's lines, each with its end. -/
def linesOf : By → List By
  | [] => []
  | c :: r => if c = 10 then [10] :: linesOf r else match linesOf r with | [] => [[c]] | p :: ps => (c :: p) :: ps
theorem lines_flat : ∀ t : By, (linesOf t).flatten = t
  | [] => rfl
  | c :: r => by
    have ih := lines_flat r
    unfold linesOf
    split
    · rename_i h; rw [List.flatten_cons, ih, h]; rfl
    · cases hl : linesOf r with
      | nil => rw [hl] at ih; rw [← ih]; rfl
      | cons p ps => rw [hl] at ih; rw [← ih]; rfl
theorem lines_cut : ∀ {x : By} (m : By), (10 : UInt8) ∉ x → linesOf (x ++ 10 :: m) = (x ++ [10]) :: linesOf m
  | [], m, _ => by
    show linesOf (10 :: m) = _
    conv => lhs; unfold linesOf
    rw [if_pos rfl]; rfl
  | c :: r, m, h => by
    show linesOf (c :: (r ++ 10 :: m)) = _
    conv => lhs; unfold linesOf
    rw [if_neg (fun e => h (by rw [e]; exact List.mem_cons_self ..)), lines_cut m fun hm => h (List.mem_cons_of_mem _ hm)]
    rfl
/-- What Read makes of the lines. -/
def readL : List At → List By → List At × Nat × Int
  | acc, [] => (acc, 0, 0)
  | acc, l :: ls => if acc.length = 100000 then ([], acc.length, 11) else if checkA (actL l) = 0 ∧ lineL (actL l) = l then readL (acc ++ [actL l]) ls else ([], acc.length, 4)
def readT (t : By) : List At × Nat × Int := if 2000000 < t.length then ([], 0, 1) else readL [] (linesOf t)
def flatA (zs : List At) : By := zs.flatMap lineL
theorem readL_ok : ∀ {ls : List By} {acc zs : List At} {i : Nat}, (∀ a ∈ acc, checkA a = 0) → acc.length ≤ 100000 → readL acc ls = (zs, i, 0) → i = 0 ∧ (∀ a ∈ zs, checkA a = 0) ∧ zs.length ≤ 100000 ∧ flatA zs = flatA acc ++ ls.flatten
  | [], acc, zs, i, h, hl, e => by
    simp only [readL, Prod.mk.injEq] at e
    obtain ⟨rfl, rfl, _⟩ := e
    exact ⟨rfl, h, hl, by simp⟩
  | l :: ls, acc, zs, i, h, hl, e => by
    unfold readL at e
    split at e
    · simp at e
    · split at e
      · rename_i hc
        have q := readL_ok (ls := ls) (acc := acc ++ [actL l]) (fun a ha => by
          rcases List.mem_append.1 ha with ha | ha
          · exact h a ha
          · rw [List.mem_singleton.1 ha]; exact hc.1) (by rw [List.length_append, List.length_singleton]; omega) e
        refine ⟨q.1, q.2.1, q.2.2.1, ?_⟩
        rw [q.2.2.2]
        unfold flatA
        rw [List.flatMap_append, List.flatten_cons, List.append_assoc]
        simp [hc.2]
      · simp at e
theorem readL_bad : ∀ {ls : List By} {acc zs : List At} {i : Nat} {e : Int}, readL acc ls = (zs, i, e) → e ≠ 0 → zs = []
  | [], acc, zs, i, e, h, he => by
    simp only [readL, Prod.mk.injEq] at h
    exact absurd h.2.2.symm he
  | l :: ls, acc, zs, i, e, h, he => by
    unfold readL at h
    split at h
    · exact (Prod.mk.inj h).1.symm
    · split at h
      · exact readL_bad h he
      · exact (Prod.mk.inj h).1.symm
theorem read_bad {t : By} {zs : List At} {i : Nat} {e : Int} (h : readT t = (zs, i, e)) (he : e ≠ 0) : zs = [] := by
  unfold readT at h
  split at h
  · exact (Prod.mk.inj h).1.symm
  · exact readL_bad h he
theorem itoa_no10 (n : Nat) : (10 : UInt8) ∉ Lib.itoa (n : Int) := by
  have e : Lib.itoa (n : Int) = Lib.decDigits n := by unfold Lib.itoa; rw [if_neg (by omega)]; rfl
  rw [e]
  intro h
  have := (dec_range n _ h).1
  revert this; decide
theorem hex_fin10 : ∀ i : Fin 256, ((digs[((UInt8.ofNat i.val) >>> 4).toNat]?).getD 0) ≠ 10 ∧ ((digs[((UInt8.ofNat i.val) &&& 15).toNat]?).getD 0) ≠ 10 := by decide +kernel
theorem hex_no10 (l : By) : (10 : UInt8) ∉ l.flatMap hexB := by
  intro h
  obtain ⟨b, _, hb⟩ := List.mem_flatMap.1 h
  have := hex_fin10 ⟨b.toNat, UInt8.toNat_lt b⟩
  simp only [UInt8.ofNat_toNat] at this
  simp only [hexB, List.mem_cons, List.not_mem_nil, or_false] at hb
  rcases hb with e | e
  · exact this.1 e.symm
  · exact this.2 e.symm
theorem words_no10 (k : Int) : (10 : UInt8) ∉ wordL k := by
  unfold wordL
  match hk : k.toNat with
  | 0 => decide
  | 1 => decide
  | 2 => decide
  | 3 => decide
  | 4 => decide
  | n + 5 => simp [words]
/-- The line of an act that is in order: one line. -/
theorem line_one {a : At} (h : checkA a = 0) : ∃ x, lineL a = x ++ [10] ∧ (10 : UInt8) ∉ x := by
  refine ⟨_, rfl, ?_⟩
  obtain ⟨k, s, n, d⟩ := a
  unfold checkA at h
  simp only at h
  split at h
  · cases h
  split at h
  · cases h
  rename_i h2
  intro hm
  rcases List.mem_append.1 hm with hm | hm
  · exact words_no10 _ hm
  · simp only at hm
    split at hm
    · rename_i hk
      have hk : k = 1 := hk
      obtain ⟨u, rfl⟩ : ∃ u : Nat, s = u := ⟨s.toNat, by omega⟩
      rcases List.mem_cons.1 hm with e | hm
      · revert e; decide
      · rcases List.mem_append.1 hm with hm | hm
        · exact itoa_no10 u hm
        · rcases List.mem_cons.1 hm with e | hm
          · revert e; decide
          · exact hex_no10 d hm
    · split at hm
      · rename_i hk
        have hk : k = 3 := hk
        obtain ⟨u, rfl⟩ : ∃ u : Nat, n = u := ⟨n.toNat, by omega⟩
        rcases List.mem_cons.1 hm with e | hm
        · revert e; decide
        · exact itoa_no10 u hm
      · cases hm
theorem lines_acts : ∀ {zs : List At} (m : By), (∀ a ∈ zs, checkA a = 0) → linesOf (flatA zs ++ m) = zs.map lineL ++ linesOf m
  | [], m, _ => rfl
  | a :: zs, m, h => by
    obtain ⟨x, e, hx⟩ := line_one (h a (List.mem_cons_self ..))
    have ih := lines_acts (zs := zs) m fun b hb => h b (List.mem_cons_of_mem _ hb)
    show linesOf ((lineL a ++ flatA zs) ++ m) = lineL a :: (zs.map lineL ++ linesOf m)
    rw [← ih, e, List.append_assoc, List.append_assoc, List.singleton_append, lines_cut _ hx]
theorem readL_acts : ∀ {zs : List At} {acc : List At} (ls : List By), (∀ a ∈ zs, checkA a = 0) → acc.length + zs.length < 100000 → readL acc (zs.map lineL ++ ls) = readL (acc ++ zs) ls
  | [], acc, ls, _, _ => by simp
  | a :: zs, acc, ls, h, hl => by
    have ha := h a (List.mem_cons_self ..)
    show readL acc (lineL a :: (zs.map lineL ++ ls)) = _
    conv => lhs; unfold readL
    simp only [List.length_cons] at hl
    rw [if_neg (by omega), if_pos (by rw [act_line ha]; exact ⟨ha, rfl⟩), act_line ha, readL_acts ls (fun b hb => h b (List.mem_cons_of_mem _ hb)) (by rw [List.length_append, List.length_singleton]; omega)]
    simp
/-- What is shown is read as it was. -/
theorem show_read {zs : List At} (h : ∀ a ∈ zs, checkA a = 0) (hl : zs.length < 100000) (hs : (flatA zs).length ≤ 2000000) : readT (flatA zs) = (zs, 0, 0) := by
  unfold readT
  rw [if_neg (by omega)]
  have e := lines_acts [] h
  rw [List.append_nil] at e
  rw [e, readL_acts _ h (by simpa using hl)]
  simp [linesOf, readL]
/-- A bad line is told by its place. -/
theorem read_mid {zs bs : List At} {x : By} (ha : ∀ a ∈ zs, checkA a = 0) (hl : zs.length < 100000) (hx : (10 : UInt8) ∉ x) (hb : ¬ (checkA (actL (x ++ [10])) = 0 ∧ lineL (actL (x ++ [10])) = x ++ [10])) (hs : (flatA zs ++ (x ++ [10]) ++ flatA bs).length ≤ 2000000) : readT (flatA zs ++ (x ++ [10]) ++ flatA bs) = ([], zs.length, 4) := by
  unfold readT
  rw [if_neg (by omega), List.append_assoc, lines_acts _ ha, List.append_assoc, List.singleton_append, lines_cut _ hx, readL_acts _ ha (by simpa using hl)]
  rw [List.nil_append]
  unfold readL
  rw [if_neg (by omega), if_neg hb]
def bads : List By := [[115, 121, 110, 99, 32, 49], [97, 115, 107], [97, 115, 107, 32, 56, 32], [97, 115, 107, 32, 48], [], [97, 115, 107, 32, 48, 32, 48], [97, 115, 107, 32, 48, 32, 48, 71], [97, 115, 107, 32, 48, 32, 48, 65], [99, 114, 97, 115, 104, 32, 48, 49], [99, 114, 97, 115, 104, 32, 50, 48, 48, 48, 48, 49], [83, 121, 110, 99], [115, 116, 97, 114, 116, 32]]
theorem bads_no : ∀ x ∈ bads, (10 : UInt8) ∉ x := by decide +kernel
theorem bads_bad : ∀ x ∈ bads, ¬ (checkA (actL (x ++ [10])) = 0 ∧ lineL (actL (x ++ [10])) = x ++ [10]) := by decide +kernel
end Go.Proofs.YtajmjolgphadoaaDoor
namespace Go.Proofs.YtajmjolgphadoaaDoor
set_option linter.unusedVariables false
set_option linter.unusedSimpArgs false
theorem idx_one (c : UInt8) (r : By) : Lib.index (c :: r) [32] = if c = 32 then 0 else if Lib.index r [32] = -1 then -1 else Lib.index r [32] + 1 := by
  conv => lhs; unfold Lib.index
  by_cases h : c = 32
  · subst h; simp [List.isPrefixOf]
  · have : ([32] : By).isPrefixOf (c :: r) = false := by simp [List.isPrefixOf]; exact fun e => h e.symm
    rw [this, if_neg h]
    simp
theorem idx_all : ∀ s : By, (Lib.index s [32] = -1 ∧ (32 : UInt8) ∉ s) ∨ ∃ i : Nat, Lib.index s [32] = (i : Int) ∧ s = s.take i ++ 32 :: s.drop (i + 1) ∧ (32 : UInt8) ∉ s.take i ∧ i < s.length
  | [] => .inl ⟨rfl, by simp⟩
  | c :: r => by
    rw [idx_one]
    by_cases h : c = 32
    · subst h
      exact .inr ⟨0, by simp, by simp, by simp, by simp⟩
    · rw [if_neg h]
      rcases idx_all r with ⟨h1, h2⟩ | ⟨i, h1, h2, h3, h4⟩
      · rw [h1, if_pos rfl]
        refine .inl ⟨rfl, fun hm => ?_⟩
        rcases List.mem_cons.1 hm with e | hm
        · exact h e.symm
        · exact h2 hm
      · rw [h1, if_neg (by omega)]
        refine .inr ⟨i + 1, by simp, ?_, ?_, by simp; omega⟩
        · rw [List.take_succ_cons, List.drop_succ_cons, List.cons_append, ← h2]
        · rw [List.take_succ_cons]
          intro hm
          rcases List.mem_cons.1 hm with e | hm
          · exact h e.symm
          · exact h3 hm
theorem split_sp : ∀ (fuel : Nat) (s : By), s.length < fuel → Lib.splitK [32] 0 (Lib.countFrom [32] fuel s) s = sp s
  | 0, s, h => by omega
  | fuel + 1, s, h => by
    rcases idx_all s with ⟨h1, h2⟩ | ⟨i, h1, h2, h3, h4⟩
    · unfold Lib.countFrom
      rw [h1]
      simp only [beq_self_eq_true, if_true]
      rw [sp_one h2]; rfl
    · have hne : (Lib.index s [32] == -1) = false := by rw [h1]; exact beq_eq_false_iff_ne.2 (by omega)
      unfold Lib.countFrom
      rw [hne]
      simp only [Bool.false_eq_true, if_false]
      rw [Nat.add_comm 1]
      unfold Lib.splitK
      rw [hne]
      simp only [Bool.false_eq_true, if_false]
      rw [h1]
      simp only [Int.toNat_natCast, Nat.add_zero, List.length_singleton]
      rw [split_sp fuel (s.drop (i + 1)) (by rw [List.length_drop]; omega)]
      conv => rhs; rw [h2]
      rw [sp_cut _ h3]
theorem sp_len : ∀ l : By, (sp l).length ≤ l.length + 1
  | [] => by simp [sp]
  | c :: r => by
    have ih := sp_len r
    unfold sp
    split
    · simp only [List.length_cons]; omega
    · cases hr : sp r with
      | nil => simp
      | cons p ps => rw [hr] at ih; simp only [List.length_cons] at *; omega
end Go.Proofs.YtajmjolgphadoaaDoor
