/- Rules, plain laws and walks: DG3 DG4 DG5 RT1 RT2 RP1 RP2 RP3 RU1 RU2 RV FR -/
import Derived.Test.YtilgpdpooildcaaGreatDoorDA7
import Derived.Test.YtilgpdpooildcaaGreatDoorDA6
import Derived.Test.YtilgpdpooildcaaGreatDoorDA2
import Derived.Test.YtilgpdpooildcaaGreatDoorDA1
import Derived.Test.YtilgpdpooildcaaGreatDoorDA3
import Derived.Test.YtilgpdpooildcaaGreatDoorDA4
import Derived.Test.YtilgpdpooildcaaGreatDoorDA5
import Derived.RangeFuncNested
import Derived.RangeFuncLeaves
import Derived.RangeFuncCalls
namespace Go.Proofs.YtilgpdpooildcaaGreatDoor
set_option maxHeartbeats 8000000
open Go.RowKit
set_option maxRecDepth 100000
set_option linter.unusedVariables false
set_option linter.unusedSimpArgs false
theorem Jx {E base : Nat} {w : World} {F : Fz} {l : By} {a : Option Addr} {n c : Nat} (h : Own 1 ByC E base w F (.slice a n c) l) {i : Nat} {b : UInt8} (hp : l[i]? = some b) : ∃ g, a = some ⟨g, 0, none⟩ ∧ w.cell? ⟨g, 0 + i * 1, none⟩ = some (bv b) := by
 obtain ⟨g, cs, e, _, r, hr⟩ := h.at hp
 have r : cs = [bv b] := r
 subst r
 refine ⟨g, e, ?_⟩
 have := hr 0 _ rfl
 rw [Nat.zero_add]
 simpa using this
section
variable {P : Program} {ρ : Operand → Value} {w : World} {d : Option Tmp} {t X Y E : TypeId} {pos : String} {after : Array Edge} {guard : Option (Nat × Bool)} {x y : Operand}
theorem Jy (b : UInt8) : bits .or .u8 (b.toNat : Int) 128 = ((b ||| 128).toNat : Int) := by
 have e1 : BitVec.ofInt 8 (b.toNat : Int) = b.toBitVec := by rw [BitVec.ofInt_natCast]; simp
 have e2 : BitVec.ofInt 8 (128 : Int) = (128 : UInt8).toBitVec := by decide
 have e3 : (b ||| 128).toNat = (b.toBitVec ||| (128 : UInt8).toBitVec).toNat := by rw [← UInt8.toBitVec_or]; rfl
 have hlt := (b ||| 128).toNat_lt
 unfold bits
 show IntKind.u8.wrap (((BitVec.ofInt 8 (b.toNat : Int) ||| BitVec.ofInt 8 (128 : Int)).toNat : Nat) : Int) = _
 rw [e1, e2, ← e3, show IntKind.u8.wrap (((b ||| 128).toNat : Nat) : Int) = (((b ||| 128).toNat : Nat) : Int) % 256 from rfl]
 omega
theorem Iy {b : UInt8} (hx : ρ x = bv b) (hy : ρ y = .int .u8 128) : (execOp ρ ⟨d, .binOp .or X x y Y, t, pos, after, guard⟩).run P w = .ok (.value (bv (b ||| 128))) w := by
 refine kQ hx hy ?_
 rw [eS _ (by simp)]
 show Result.ok (Value.int .u8 (bits .or .u8 (b.toNat : Int) 128)) w = _
 rw [Jy]; rfl
theorem UX {m n : Nat} (hx : ρ x = .int .i64 (m : Int)) (hy : ρ y = .int .i64 (n : Int)) (hn : 0 < n) (hm : m ≤ 9223372036854775807) : (execOp ρ ⟨d, .binOp .quo X x y Y, t, pos, after, guard⟩).run P w = .ok (.value (.int .i64 ((m / n : Nat) : Int))) w := by
 refine kQ hx hy ?_
 rw [eS _ (by simp)]
 show (Op.intDiv .quo .i64 m n).run P w = _
 unfold Op.intDiv
 rw [if_neg (by omega)]
 show Result.ok (Value.int .i64 (IntKind.i64.wrap (Int.tdiv (m : Int) (n : Int)))) w = _
 have hle : m / n ≤ m := Nat.div_le_self m n
 rw [Int.tdiv_eq_ediv_of_nonneg (by omega), ← Int.natCast_ediv]
 generalize m / n = q at *
 rw [lY (by omega) (by omega)]
theorem Gm {a : BitVec 64} {n : Nat} (hx : ρ x = aS a) (hy : ρ y = .int .i64 (n : Int)) (hn : n ≤ 64) : (execOp ρ ⟨d, .binOp .shl X x y Y, t, pos, after, guard⟩).run P w = .ok (.value (aS (a <<< n))) w := by
 have e : (eqGuard .shl X x y (.int .u64 (gO a)) (.int .i64 (n : Int))).run P w = .ok () w := rfl
 have h : (binOp .shl X (.int .u64 (gO a)) (.int .i64 (n : Int))).run P w = .ok (aS (a <<< n)) w := by
  show (Op.shift .shl .u64 (gO a) .i64 (n : Int)).run P w = _
  unfold Op.shift
  rw [if_neg (by omega)]
  show Result.ok (Value.int .u64 (IntKind.u64.wrap (gO a * 2 ^ (min (n : Int).toNat 64)))) w = _
  rw [Int.toNat_natCast, Nat.min_eq_left hn, PC]
 simp only [execOp, hx, hy, Sem.run_bind, e, Result.andThen_ok, h, Sem.run_pure]
theorem Gn {a : BitVec 64} {n : Nat} (hx : ρ x = aS a) (hy : ρ y = .int .i64 (n : Int)) (hn : n ≤ 64) : (execOp ρ ⟨d, .binOp .shr X x y Y, t, pos, after, guard⟩).run P w = .ok (.value (aS (a >>> n))) w := by
 have e : (eqGuard .shr X x y (.int .u64 (gO a)) (.int .i64 (n : Int))).run P w = .ok () w := rfl
 have h : (binOp .shr X (.int .u64 (gO a)) (.int .i64 (n : Int))).run P w = .ok (aS (a >>> n)) w := by
  show (Op.shift .shr .u64 (gO a) .i64 (n : Int)).run P w = _
  unfold Op.shift
  rw [if_neg (by omega)]
  show Result.ok (Value.int .u64 (Int.fdiv (gO a) (2 ^ (min (n : Int).toNat 64)))) w = _
  rw [Int.toNat_natCast, Nat.min_eq_left hn, Int.fdiv_eq_ediv_of_nonneg _ (show (0 : Int) ≤ 2 ^ n from Int.le_of_lt (Int.pow_pos (by decide))), PD]
 simp only [execOp, hx, hy, Sem.run_bind, e, Result.andThen_ok, h, Sem.run_pure]
theorem Bc (b : UInt8) (w : World) : (convert 5 215 (bv b)).run Tryz.prog w = .ok (aS (BitVec.ofNat 64 b.toNat)) w := by
 have : (convert 5 215 (bv b)).run Tryz.prog w = .ok (.int .u64 (IntKind.u64.wrap (b.toNat : Int))) w := by kernel_rfl
 have hb := b.toNat_lt
 have e : IntKind.u64.wrap (b.toNat : Int) = gO (BitVec.ofNat 64 b.toNat) := by
  rw [PB]; unfold gO; simp; omega
 rw [this, e]
theorem Bd (a : BitVec 64) (w : World) : (convert 215 5 (aS a)).run Tryz.prog w = .ok (bv (UInt8.ofNat (a.toNat % 256))) w := by
 have : (convert 215 5 (aS a)).run Tryz.prog w = .ok (.int .u8 (IntKind.u8.wrap (gO a))) w := by kernel_rfl
 have e : IntKind.u8.wrap (gO a) = ((UInt8.ofNat (a.toNat % 256)).toNat : Int) := by
  rw [show IntKind.u8.wrap (gO a) = gO a % 256 from rfl]; unfold gO; simp
 rw [this, e]; rfl
end
def eC (b : By) (k : Nat) : By := (b ++ [6]) ++ List.replicate k 0
def eK (b : By) : Nat := (136 - (b.length + 1) % 136) % 136
theorem Be (b : By) (k : Nat) : (eC b k).length = b.length + 1 + k := by simp [eC]; omega
theorem WU (b : By) (k : Nat) : eC b k ++ [0] = eC b (k + 1) := by
 unfold eC
 rw [List.append_assoc, List.replicate_succ']
theorem WV (b : By) : b ++ [6] = eC b 0 := by simp [eC]
theorem Gp {b : By} {x : UInt8} (h : (eC b (eK b))[(eC b (eK b)).length - 1]? = some x) : (eC b (eK b)).set ((eC b (eK b)).length - 1) (x ||| 128) = GF b := by
 have e : (eC b (eK b)).getD ((eC b (eK b)).length - 1) 0 = x := by rw [List.getD_eq_getElem?_getD, h]; rfl
 rw [← e]
 unfold GF eC eK
 simp only [List.length_append, List.length_singleton]
theorem PH (b : By) : (GF b).length = b.length + 1 + eK b := by
 unfold GF eK
 simp only [List.length_set, List.length_append, List.length_singleton, List.length_replicate]
theorem BQ (S : List (BitVec 64)) (p : By) : ∀ n, (sV S p n).length = S.length := by
 intro n
 induction n with
 | zero => rfl
 | succ n ih => unfold sV at *; rw [List.range_succ, List.foldl_append]; simpa using ih
theorem Bf (S : List (BitVec 64)) {p : By} {n : Nat} {x : UInt8} (h : p[n]? = some x) : (sV S p n).set (n / 8) (at0 (sV S p n) (n / 8) ^^^ (BitVec.ofNat 64 x.toNat <<< (n % 8 * 8))) = sV S p (n + 1) := by
 have e : p.getD n 0 = x := by rw [List.getD_eq_getElem?_getD, h]; rfl
 rw [← e]
 unfold sV
 rw [List.range_succ, List.foldl_append]
 rfl
theorem WW (S : List (BitVec 64)) (r : Nat) : (HW S r).length = 25 := by
 unfold HW
 simp [Ds, rM]
theorem EF (S : List (BitVec 64)) (n : Nat) : HW (nA S n) n = nA S (n + 1) := by
 unfold nA
 rw [List.range_succ, List.foldl_append]
 rfl
theorem IT {S : List (BitVec 64)} (h : S.length = 25) : ∀ n, (nA S n).length = 25
  | 0 => h
  | n + 1 => by rw [← EF]; exact WW _ _
theorem PI {Z : List (BitVec 64)} {p : By} (h : 136 ≤ p.length) : nK Z p (p.length / 136) = nK (nA (sV Z p 136) 24) (p.drop 136) ((p.drop 136).length / 136) := by
 rw [List.length_drop, show p.length / 136 = (p.length - 136) / 136 + 1 from by omega]
 rfl
def Bg (Z : List (BitVec 64)) (i : Nat) : UInt8 := UInt8.ofNat ((at0 Z (i / 8) >>> (i % 8 * 8)).toNat % 256)
def xX (Z : List (BitVec 64)) (k : Nat) : By := (List.range 32).map fun i => if i < k then Bg Z i else 0
theorem PJ (Z : List (BitVec 64)) (k : Nat) : (xX Z k).length = 32 := by simp [xX]
theorem WX (Z : List (BitVec 64)) : xX Z 0 = List.replicate 32 0 := by unfold xX; rfl
theorem Bh (Z : List (BitVec 64)) : xX Z 32 = NM Z := by
 unfold xX NM
 exact List.map_congr_left fun i hi => by rw [if_pos (List.mem_range.1 hi)]; rfl
theorem WY (Z : List (BitVec 64)) {k : Nat} (h : k < 32) : (xX Z k).set k (Bg Z k) = xX Z (k + 1) := by
 apply List.ext_getElem (by simp [xX])
 intro i h1 h2
 simp only [xX, List.getElem_set, List.getElem_map, List.getElem_range]
 by_cases e : k = i
 ·subst e; simp
 ·rw [if_neg e]
  by_cases e2 : i < k
  ·rw [if_pos e2, if_pos (by omega)]
  ·rw [if_neg e2, if_neg (by omega)]
theorem WZ {l : By} {j : Nat} {x : UInt8} (h : j < l.length) : cA (l.map bv) j [bv x] = (l.set j x).map bv := by
 unfold cA
 rw [List.map_set, List.set_eq_take_append_cons_drop, if_pos (by simpa using h)]
 simp
theorem Bi (w : World) : (zeroValue 217).run Tryz.prog w = .ok (.agg ((List.replicate 25 (0 : BitVec 64)).map aS).toArray) w := by kernel_rfl
theorem Iz {P : Program} {w0 w : World} {F0 F : Fz} {rb : Nat} {T : TypeId} {L0 : List Blk} {M0 : List RowP} {Z : List (BitVec 64)} {ops : Array Oper} {Q : Exit → Act → World → Prop} {a : Act} {rest : List Oper} {o : Oper} {k : FuncId} {vs : Array Value} (hw : Region.wanted o (yielded ops a.tmps) = true)
    (hr : (execOp a.eval o).run P w = .ok (.enter k vs) w) (hc : Calls P k vs w fun e w' => e = .returned (.tuple #[]) ∧ St w0 F0 w' F (⟨rb, Z.map aS, T⟩ :: L0) M0)
    (h : ∀ w', St w0 F0 w' F (⟨rb, Z.map aS, T⟩ :: L0) M0 → WL P ops Q rest (a.put o.dst (.tuple #[])) w') : WL P ops Q (o :: rest) a w :=
  doC hw hr hc fun e w' ⟨he, hS⟩ => ⟨_, he, h w' hS⟩
theorem Sl.dropD {α : Type} {k : Nat} {R : Fz → List Value → α → Prop} {F : Fz} {a : Option Addr} {n c m : Nat} {l : List α} (hk : 0 < k) (h : Sl k R F (.slice a n c) l) (hm : m ≤ n) : Sl k R F (.slice (if c = m then a else a.map (·.add (m * k))) (n - m) (c - m)) (l.drop m) := by
 have hn := Sl.len h
 obtain ⟨el, h1, h2, h3⟩ := h
 obtain ⟨a0, c0, e1, q1, q2, q3, q4⟩ := h1
 injection e1 with e1 e2 e3
 subst e1; subst e3
 have hll := h2.len
 by_cases hmn : m = l.length
 have e : l.drop m = [] := List.drop_of_length_le (by omega)
 have e0 : n - m = 0 := by omega
 rw [e, e0]
 refine ⟨[], ⟨_, c - m, rfl, by simp, by omega, fun e => ?_, .inl rfl⟩, trivial, by simp⟩
 cases a with
 | none => have := q3 rfl; exact ⟨rfl, by omega⟩
 | some ad => split at e <;> cases e
 have hpos : el.flatten ≠ [] := by
  intro e
  have := congrArg List.length e
  rw [fO h3, hll] at this
  have := Nat.mul_pos (show 0 < l.length by omega) hk
  simp at *
  omega
 obtain ⟨b, o, e, hc⟩ := q4.resolve_left hpos
 subst e
 rw [if_neg (by omega)]
 have hs : Sl k R F (.slice (some ⟨b, o, none⟩) n c) l := ⟨el, ⟨_, _, by rw [hn], q1, q2, q3, .inr ⟨b, o, rfl, hc⟩⟩, h2, h3⟩
 have := Sl.dropN (m := m) hs hm rfl rfl
 show Sl k R F (.slice (some (Addr.add ⟨b, o, none⟩ (m * k))) _ _) _
 rw [Addr.add_mid]
 exact this
theorem Bs.restD {F : Fz} {a : Option Addr} {m c n : Nat} {l : By} (h : Bs F (.slice a m c) l) (hn : n ≤ m) : Bs F (.slice (if c = n then a else a.map (·.add (n * 1))) (m - n) (c - n)) (l.drop n) := eU (Sl.dropD (by decide) h.sl hn)
theorem SE (n : Nat) : (madeCells (Value.int .u8 0).cells (n * 1)).toList = (List.replicate n (0 : UInt8)).map bv := by
 rw [show (Value.int .u8 0).cells = #[.int .u8 0] from rfl, toList_madeCells_one]; simp [bv]
theorem SF (S : List (BitVec 64)) : nA S 0 = S := rfl
theorem Bj (S : List (BitVec 64)) (p : By) : sV S p 0 = S := rfl
theorem XA {Z X R : List (BitVec 64)} {p : By} (hX : X = sV Z p 136) (h : 136 ≤ p.length) (e : nK Z p (p.length / 136) = R) : nK (nA X 24) (p.drop 136) ((p.drop 136).length / 136) = R := by
 rw [hX, ← PI h]; exact e
theorem SG {Z R : List (BitVec 64)} {p : By} (h : p.length / 136 = 0) (e : nK Z p (p.length / 136) = R) : Z = R := by
 rw [h] at e; rw [← e]; cases p <;> rfl
theorem xY (Z : List (BitVec 64)) : (NM Z).length = 32 := by simp [NM]
theorem UY (F : Fz) (w : World) (v : Value) (b : By) (hs : Sat w F) (hT : Tabs w) (hb : Bs F v b) (hn : b.length ≤ 100000) :
    Calls Tryz.prog 117 #[v] w (rV w F 1 ByC 5 (vI b)) := by
 obtain ⟨x, y, rfl, hc1', hc2'⟩ := hb.shape
 unfold maxLen at hc2'
 obtain ⟨i5, hi5, hz5, hs5, hb5⟩ := info_parts rK
 have S := St.start hs
 go_enter Tryz.func117, Tryz.ntmps117
 refine wp_seq_k (fun K1 hK1 => aB ?_)
 refine aC ?_
 refine wlK hK1 ?_
 refine wp_seq_k (fun K2 hK2 => aB ?_)
 refine aC ?_
 have S3 := St.addNil S 1 ByC ByC.mono 5 w.heap.size
 refine eE (r := 0) (u := (.slice x b.length y)) S3 rfl i5 (.int .u8 0) 1 Tryz.underlying25 hi5 hz5 hs5 hb5 rfl (by decide) rfl rfl rfl (Sl.toW (Bs.sl hb) (S3).sat) ByC.one (Nat.le_refl _) S3.gr.below.size (by unfold maxLen; simp only [List.length_nil]; omega) (by simp only [List.length_nil]; omega) ?_
 intro v4 w5 S6 hn7
 simp only [pq]
 have S6 : St w F w5 F [] [bZ 1 ByC ByC.mono 5 w.heap.size v4 ([] ++ b)] := S6
 refine bD S6 (v := fun n => .slice (some ⟨n, 0, none⟩) 1 1) rfl (bS (ps := #[(0, (.int .u8 6))]) (cells := #[(.int .u8 6)]) (E := 5) (cH rfl) (fun w => by kernel_rfl)) (fun n8 w9 c2 => ?_)
 simp only [pq]
 have c2 : St w F w9 F [⟨n8, [(.int .u8 6)], 5⟩] [bZ 1 ByC ByC.mono 5 w.heap.size v4 ([] ++ b)] := c2
 rw [List.nil_append] at c2
 refine eN (i := 0) (r := 0) (p := (6 : UInt8)) (cs := [(.int .u8 6)]) c2 rfl i5 (.int .u8 0) 1 Tryz.underlying25 hi5 hz5 hs5 hb5 rfl (by decide) rfl rfl rfl rfl rfl (sF 6) (rfl) (Nat.le_refl _) c2.gr.below.size (by unfold maxLen; omega) (by omega) ?_
 intro b5 h8 c0 h9
 simp only [pq]
 have c0 := St.drop c0 (L' := []) (.cons _ (List.Sublist.refl _))
 have c0 : St w F h8 F [] [bZ 1 ByC ByC.mono 5 w.heap.size b5 (b ++ [(6 : UInt8)])] := c0
 refine aC ?_
 refine wlK hK2 ?_
 refine aE fun m0 e4 => ?_
 refine aM ?_
 rw [WV] at c0
 refine bA (fun mm aa i0 => ∃ (k : Nat) (v : Value) (b6 : Nat → Value), mm = eK b - k ∧ b6 = dV aa ∧ aa = ⟨([(.slice x b.length y), undef, (.slice none 0 0), v] ++ (udF 5 ([(.slice x b.length y), v4, (.slice (some ⟨n8, 0, none⟩) 1 1), b5] ++ (usF b6 13 7 (udF 58 []))))).toArray, []⟩ ∧ St w F i0 F [] [bZ 1 ByC ByC.mono 5 w.heap.size v (eC b k)] ∧ (k ≤ eK b)) _ ⟨0, b5, _, rfl, rfl, rfl, c0, (Nat.zero_le _)⟩ ?_
 rintro m1 m2 m3 ⟨k, v, b6, rfl, -, hfr, d9, hk⟩ m4 e5
 simp only [uzF, Nat.reduceAdd] at hfr; subst hfr
 refine aE fun m5 e6 => ?_
 refine aE fun m6 c3 => ?_
 have hpl := Be b k
 have hpn : eK b < 136 := by unfold eK; omega
 obtain ⟨i1, a0, rfl, m7, i2⟩ := (d9.own (i := 0) rfl).shape
 unfold maxLen at i2
 refine aB ?_
 refine aC ?_
 refine do_ rfl (.int .i64 ((((eC b k).length % 136) : Nat) : Int)) (pR (m := ((eC b k).length)) (n := 136) rfl rfl (by decide) (by omega)) ?_
 simp only [pq]
 by_cases i3 : ((eC b k).length % 136) = 0
 ·refine do_ rfl (.bool false) (cG (m := ((((eC b k).length % 136) : Nat) : Int)) (n := (0 : Int)) (b := false) rfl rfl (bne_eq_false_iff_eq.2 (by omega))) ?_
  simp only [pq]
  refine wlK c3 ?_
  refine aF ?_
  refine cV ?_
  refine e4 _ _ ?_
  refine aE fun m8 e7 => ?_
  have hkk : k = eK b := by unfold eK at *; omega
  subst hkk
  obtain ⟨xb, hxb⟩ : ∃ x, (eC b (eK b))[(eC b (eK b)).length - 1]? = some x := ⟨_, List.getElem?_eq_getElem (by omega)⟩
  obtain ⟨a2, e8, i4⟩ := Jx (St.own d9 (i := 0) rfl) hxb
  subst e8
  refine aB ?_
  refine aC ?_
  refine do_ rfl (.int .i64 ((((eC b (eK b)).length - 1) : Nat) : Int)) (tL (m := (((eC b (eK b)).length : Nat) : Int)) (n := (1 : Int)) (r := ((((eC b (eK b)).length - 1) : Nat) : Int)) rfl rfl (by omega) (by omega) (by omega)) ?_
  simp only [pq]
  refine do_ rfl (.pointer (some ⟨a2, 0 + ((eC b (eK b)).length - 1) * 1, none⟩)) (bP (i := ((eC b (eK b)).length - 1)) (sz := 1) Tryz.underlying25 (dO _) rfl rfl rfl (by omega) rfl) ?_
  simp only [pq]
  refine do_ rfl (bv xb) (aD rfl (aW (lH _) i4)) ?_
  simp only [pq]
  refine do_ rfl (bv (xb ||| 128)) (Iy rfl rfl) ?_
  simp only [pq]
  refine do_ rfl (.pointer (some ⟨a2, 0 + ((eC b (eK b)).length - 1) * 1, none⟩)) (bP (i := ((eC b (eK b)).length - 1)) (sz := 1) Tryz.underlying25 (dO _) rfl rfl rfl (by omega) rfl) ?_
  simp only [pq]
  refine CW (r := 0) (i := ((eC b (eK b)).length - 1)) (p := (xb ||| 128)) (u := (bv (xb ||| 128))) d9 rfl rfl (by omega) rfl rfl (by omega) (ZI) (lS rfl) rfl rfl (Nat.le_refl _) (fun h4 e0 => ?_)
  simp only [pq]
  have e0 : St w F h4 F [] [bZ 1 ByC ByC.mono 5 w.heap.size (.slice (some ⟨a2, 0, none⟩) (eC b (eK b)).length a0) ((eC b (eK b)).set ((eC b (eK b)).length - 1) (xb ||| 128))] := e0
  rw [Gp hxb] at e0
  refine wlK e7 ?_
  refine aE fun m9 e9 => ?_
  obtain ⟨a5, f0, i6, b7⟩ := St.freeze e0 (i := 0) rfl (Nat.le_refl _)
  have f0 : St w F h4 a5 [] [] := f0
  have b7 : Bys _ (.slice (some ⟨a2, 0, none⟩) (eC b (eK b)).length a0) (GF b) := b7
  have i7 := eU b7
  refine aB ?_
  refine bD f0 (v := fun n => .pointer (some ⟨n, 0, none⟩)) rfl (CT (Bi _)) (fun a3 i8 f1 => ?_)
  simp only [pq]
  have f1 : St w F i8 a5 [⟨a3, ((List.replicate 25 (0 : BitVec 64)).map aS), 217⟩] [] := f1
  refine wlK e9 ?_
  refine aE fun n0 f2 => ?_
  refine aM ?_
  refine bA (fun mm aa i9 => ∃ (Z : List (BitVec 64)) (ra : Option Addr) (rn : Nat) (rc : Nat) (rest : By) (a7 : Nat → Value), mm = rest.length ∧ a7 = dV aa ∧ aa = ⟨([(.slice x b.length y), undef, (.slice none 0 0), (.slice ra rn rc), (.pointer (some ⟨a3, 0, none⟩)), (a7 5), (a7 6), undef, undef, (.slice x b.length y), v4, (.slice (some ⟨n8, 0, none⟩) 1 1), b5, (.slice (some ⟨a2, 0, none⟩) (eC b (eK b)).length a0), (.int .i64 (((eC b (eK b)).length : Nat) : Int)), (.int .i64 ((((eC b (eK b)).length % 136) : Nat) : Int)), (.bool false)] ++ (usF b6 17 3 ([(.slice (some ⟨a2, 0, none⟩) (eC b (eK b)).length a0), (.slice (some ⟨a2, 0, none⟩) (eC b (eK b)).length a0), (.int .i64 (((eC b (eK b)).length : Nat) : Int)), (.int .i64 ((((eC b (eK b)).length - 1) : Nat) : Int)), (.pointer (some ⟨a2, 0 + ((eC b (eK b)).length - 1) * 1, none⟩)), (bv xb), (bv (xb ||| 128)), (.pointer (some ⟨a2, 0 + ((eC b (eK b)).length - 1) * 1, none⟩))] ++ (usF a7 28 30 (udF 20 []))))).toArray, []⟩ ∧ St w F i9 a5 [⟨a3, (Z.map aS), 217⟩] [] ∧ (Z.length = 25) ∧ (Bs a5 (.slice ra rn rc) rest) ∧ (rest.length % 136 = 0) ∧ (rest.length ≤ 200000) ∧ (nK Z rest (rest.length / 136) = nK (List.replicate 25 0) (GF b) ((GF b).length / 136))) _ ⟨(List.replicate 25 0), (some ⟨a2, 0, none⟩), (eC b (eK b)).length, a0, (GF b), _, rfl, rfl, rfl, f1, (by simp), i7, (by rw [PH]; unfold eK; omega), (by rw [PH]; unfold eK; omega), rfl⟩ ?_
  rintro n1 n2 j0 ⟨Z, ra, rn, rc, rest, a7, rfl, -, hfr, e1, hZ, hrest, hrm, hrl, hab⟩ n3 f3
  simp only [uzF, Nat.reduceAdd] at hfr; subst hfr
  refine aE fun n4 f4 => ?_
  refine aE fun n5 c4 => ?_
  have hrn := hrest.len
  refine aB ?_
  refine aC ?_
  by_cases j1 : 0 < rn
  ·refine do_ rfl (.bool true) (tK (m := ((rn : Nat) : Int)) (n := (0 : Int)) (b := true) rfl rfl (decide_eq_true (by omega))) ?_
   simp only [pq]
   refine wlK c4 ?_
   refine aJ ?_
   refine aH ?_
   refine f4 _ _ ?_
   refine aE fun n6 f5 => ?_
   refine aM ?_
   refine aE fun n7 f6 => ?_
   refine wp_seq_k (fun n9 f7 => aB ?_)
   refine aC ?_
   refine wlK f7 ?_
   refine aM ?_
   have e1 : St w F j0 a5 [⟨a3, ((sV Z rest 0).map aS), 217⟩] [] := by rw [Bj]; exact e1
   refine bA (fun mm aa j2 => ∃ (i : Nat) (c1 : Nat → Value), mm = 136 - i ∧ c1 = dV aa ∧ aa = ⟨([(.slice x b.length y), undef, (.slice none 0 0), (.slice ra rn rc), (.pointer (some ⟨a3, 0, none⟩)), (c1 5), (a7 6), undef, undef, (.slice x b.length y), v4, (.slice (some ⟨n8, 0, none⟩) 1 1), b5, (.slice (some ⟨a2, 0, none⟩) (eC b (eK b)).length a0), (.int .i64 (((eC b (eK b)).length : Nat) : Int)), (.int .i64 ((((eC b (eK b)).length % 136) : Nat) : Int)), (.bool false)] ++ (usF b6 17 3 ([(.slice (some ⟨a2, 0, none⟩) (eC b (eK b)).length a0), (.slice (some ⟨a2, 0, none⟩) (eC b (eK b)).length a0), (.int .i64 (((eC b (eK b)).length : Nat) : Int)), (.int .i64 ((((eC b (eK b)).length - 1) : Nat) : Int)), (.pointer (some ⟨a2, 0 + ((eC b (eK b)).length - 1) * 1, none⟩)), (bv xb), (bv (xb ||| 128)), (.pointer (some ⟨a2, 0 + ((eC b (eK b)).length - 1) * 1, none⟩)), (.slice ra rn rc), (.int .i64 ((rn : Nat) : Int)), (.bool true), (a7 31), (a7 32), (.int .i64 ((i : Nat) : Int))] ++ (usF c1 34 18 (usF a7 52 6 (udF 20 [])))))).toArray, []⟩ ∧ St w F j2 a5 [⟨a3, ((sV Z rest i).map aS), 217⟩] [] ∧ (i ≤ 136)) _ ⟨0, _, rfl, rfl, rfl, e1, (by omega)⟩ ?_
   rintro o0 o1 j3 ⟨i, c1, rfl, -, hfr, b9, hi⟩ o2 f8
   simp only [uzF, Nat.reduceAdd] at hfr; subst hfr
   refine wp_seq_k (fun o3 c5 => aB ?_)
   by_cases j4 : i < 136
   ·refine do_ rfl (.bool true) (oI (m := ((i : Nat) : Int)) (n := (136 : Int)) (b := true) rfl rfl (decide_eq_true (by omega))) ?_
    simp only [pq]
    refine wlK c5 ?_
    refine aE fun o4 f9 => ?_
    refine aJ ?_
    refine aH ?_
    refine f9 _ _ ?_
    refine aE fun o5 g0 => ?_
    refine aM ?_
    refine wp_seq_k (fun o6 g1 => aB ?_)
    refine aC ?_
    refine wlK g1 ?_
    obtain ⟨xi, hxi⟩ : ∃ x, rest[i]? = some x := ⟨_, List.getElem?_eq_getElem (by omega)⟩
    obtain ⟨j5, j6, g2, j7⟩ := Bs.get hrest hxi
    refine aT a5 13 [] (by kernel_rfl) (by kernel_rfl) ?_
    simp only [dD]
    refine gX rfl rfl (.int .i64 ((i : Nat) : Int)) (fun b0 a1 => aK (fF _)) ?_
    simp only [pq]
    refine gX rfl rfl (.int .i64 (((i / 8) : Nat) : Int)) (fun b0 a1 => aK (UX (m := i) (n := 8) rfl rfl (by decide) (by omega))) ?_
    simp only [pq]
    refine gX rfl rfl (.pointer (some ⟨a3, (i / 8), none⟩)) (fun b0 a1 => aK (gC (i := (i / 8)) Tryz.underlying217 (cP _) rfl rfl (by omega))) ?_
    simp only [pq]
    refine gX rfl rfl (aS (at0 (sV Z rest i) (i / 8))) (fun b0 a1 => aK (aD rfl (aW (fP _) (St.cell (St.tells b9 a1) (i := 0) rfl (fQ (Nat.lt_of_lt_of_eq (show (i / 8) < 25 by omega) ((BQ _ _ _).trans hZ).symm)))))) ?_
    simp only [pq]
    refine gX rfl rfl (.slice ra rn rc) (fun b0 a1 => aK (fF _)) ?_
    simp only [pq]
    refine gX rfl rfl (.int .i64 ((i : Nat) : Int)) (fun b0 a1 => aK (fF _)) ?_
    simp only [pq]
    refine gX rfl rfl (.pointer (some ⟨j5, j6 + i * 1, none⟩)) (fun b0 a1 => aK (bP (i := i) (sz := 1) Tryz.underlying25 (dO _) rfl g2 rfl (by omega) rfl)) ?_
    simp only [pq]
    refine gX rfl rfl (bv xi) (fun b0 a1 => aK (aD rfl (aW (lH _) (St.fz (St.tells b9 a1) j7)))) ?_
    simp only [pq]
    refine gX rfl rfl (aS (BitVec.ofNat 64 xi.toNat)) (fun b0 a1 => aK (bB (v := (bv xi)) rfl (Bc xi _))) ?_
    simp only [pq]
    refine gX rfl rfl (.int .i64 ((i : Nat) : Int)) (fun b0 a1 => aK (fF _)) ?_
    simp only [pq]
    refine gX rfl rfl (.int .i64 (((i % 8) : Nat) : Int)) (fun b0 a1 => aK (pR (m := i) (n := 8) rfl rfl (by decide) (by omega))) ?_
    simp only [pq]
    refine gX rfl rfl (.int .i64 ((((i % 8) * 8) : Nat) : Int)) (fun b0 a1 => aK (YZ (m := (((i % 8) : Nat) : Int)) (n := (8 : Int)) (r := ((((i % 8) * 8) : Nat) : Int)) rfl rfl (by omega) (by omega) (by omega))) ?_
    simp only [pq]
    refine gX rfl rfl (aS ((BitVec.ofNat 64 xi.toNat) <<< ((i % 8) * 8))) (fun b0 a1 => aK (Gm (n := ((i % 8) * 8)) rfl rfl (by omega))) ?_
    simp only [pq]
    refine bY ?_
    intro o7 g3 g4
    clear g4
    have j8 := St.tells b9 g3
    simp only [dE]
    refine do_ rfl (aS ((at0 (sV Z rest i) (i / 8)) ^^^ ((BitVec.ofNat 64 xi.toNat) <<< ((i % 8) * 8)))) (nU rfl rfl) ?_
    simp only [pq]
    refine do_ rfl (.pointer (some ⟨a3, (i / 8), none⟩)) (gC (i := (i / 8)) Tryz.underlying217 (cP _) rfl rfl (by omega)) ?_
    simp only [pq]
    refine fL (i := 0) (v := aS ((at0 (sV Z rest i) (i / 8)) ^^^ ((BitVec.ofNat 64 xi.toNat) <<< ((i % 8) * 8)))) j8 rfl rfl rfl rfl (rC) (lS rfl) (by rw [List.length_map, ((BQ _ _ _).trans hZ)]; show (i / 8) + 1 ≤ 25; omega) (fun j9 c6 => ?_)
    simp only [pq]
    have c6 : St w F j9 a5 [⟨a3, (cA ((sV Z rest i).map aS) (i / 8) [aS ((at0 (sV Z rest i) (i / 8)) ^^^ ((BitVec.ofNat 64 xi.toNat) <<< ((i % 8) * 8)))]), 217⟩] [] := c6
    rw [oB (Nat.lt_of_lt_of_eq (show (i / 8) < 25 by omega) ((BQ _ _ _).trans hZ).symm)] at c6
    rw [Bf Z hxi] at c6
    refine wlK g0 ?_
    refine aB ?_
    refine do_ rfl (.int .i64 (((i + 1) : Nat) : Int)) (iC (m := ((i : Nat) : Int)) (n := (1 : Int)) (r := (((i + 1) : Nat) : Int)) rfl rfl (by omega) (by omega) (by omega)) ?_
    refine aC ?_
    refine aG ?_
    exact f8 _ _ _ (by omega) ⟨(i + 1), _, rfl, rfl, rfl, c6, (by omega)⟩
   ·refine do_ rfl (.bool false) (oI (m := ((i : Nat) : Int)) (n := (136 : Int)) (b := false) rfl rfl (decide_eq_false (by omega))) ?_
    simp only [pq]
    refine wlK c5 ?_
    refine aE fun o8 k0 => ?_
    refine aF ?_
    refine cV ?_
    refine f6 _ _ ?_
    refine aE fun o9 g5 => ?_
    obtain rfl : i = 136 := by omega
    obtain ⟨Xm, hXm⟩ : ∃ X, X = sV Z rest 136 := ⟨_, rfl⟩
    have hXl : Xm.length = 25 := by rw [hXm]; exact (BQ _ _ _).trans hZ
    rw [← hXm] at b9
    refine aB ?_
    refine aC ?_
    refine wlK g5 ?_
    refine aM ?_
    have b9 : St w F j3 a5 [⟨a3, ((nA Xm 0).map aS), 217⟩] [] := by rw [SF]; exact b9
    refine bA (fun mm aa k1 => ∃ (q : Nat) (e2 : Nat → Value), mm = 24 - q ∧ e2 = dV aa ∧ aa = ⟨([(.slice x b.length y), undef, (.slice none 0 0), (.slice ra rn rc), (.pointer (some ⟨a3, 0, none⟩)), (c1 5), (e2 6), undef, undef, (.slice x b.length y), v4, (.slice (some ⟨n8, 0, none⟩) 1 1), b5, (.slice (some ⟨a2, 0, none⟩) (eC b (eK b)).length a0), (.int .i64 (((eC b (eK b)).length : Nat) : Int)), (.int .i64 ((((eC b (eK b)).length % 136) : Nat) : Int)), (.bool false)] ++ (usF b6 17 3 ([(.slice (some ⟨a2, 0, none⟩) (eC b (eK b)).length a0), (.slice (some ⟨a2, 0, none⟩) (eC b (eK b)).length a0), (.int .i64 (((eC b (eK b)).length : Nat) : Int)), (.int .i64 ((((eC b (eK b)).length - 1) : Nat) : Int)), (.pointer (some ⟨a2, 0 + ((eC b (eK b)).length - 1) * 1, none⟩)), (bv xb), (bv (xb ||| 128)), (.pointer (some ⟨a2, 0 + ((eC b (eK b)).length - 1) * 1, none⟩)), (.slice ra rn rc), (.int .i64 ((rn : Nat) : Int)), (.bool true), (a7 31), (a7 32), (.int .i64 136), (.bool false)] ++ (usF c1 35 17 ([(.int .i64 ((q : Nat) : Int))] ++ (usF e2 53 5 (udF 20 []))))))).toArray, []⟩ ∧ St w F k1 a5 [⟨a3, ((nA Xm q).map aS), 217⟩] [] ∧ (q ≤ 24)) _ ⟨0, _, rfl, rfl, rfl, b9, (by omega)⟩ ?_
    rintro p0 p1 p2 ⟨q, e2, rfl, -, hfr, h5, hq⟩ p3 g6
    simp only [uzF, Nat.reduceAdd] at hfr; subst hfr
    refine wp_seq_k (fun p4 c7 => aB ?_)
    by_cases k2 : q < 24
    ·refine do_ rfl (.bool true) (oI (m := ((q : Nat) : Int)) (n := (24 : Int)) (b := true) rfl rfl (decide_eq_true (by omega))) ?_
     simp only [pq]
     refine wlK c7 ?_
     refine aE fun p5 g7 => ?_
     refine aJ ?_
     refine aH ?_
     refine g7 _ _ ?_
     refine aE fun p6 g8 => ?_
     refine aM ?_
     refine wp_seq_k (fun p7 g9 => aB ?_)
     refine aC ?_
     refine wlK g9 ?_
     refine aB ?_
     refine aC ?_
     refine Iz rfl (cK (vs := #[(.pointer (some ⟨a3, 0, none⟩)), (.int .i64 ((q : Nat) : Int))]) (iD rfl rfl) rfl (Fr _ _)) (WT h5 (IT hXl _) hT (by omega)) (fun k3 e3 => ?_)
     simp only [pq]
     have e3 : St w F k3 a5 [⟨a3, ((HW (nA Xm q) q).map aS), 217⟩] [] := e3
     rw [EF] at e3
     refine wlK g8 ?_
     refine aB ?_
     refine do_ rfl (.int .i64 (((q + 1) : Nat) : Int)) (iC (m := ((q : Nat) : Int)) (n := (1 : Int)) (r := (((q + 1) : Nat) : Int)) rfl rfl (by omega) (by omega) (by omega)) ?_
     refine aC ?_
     refine aG ?_
     exact g6 _ _ _ (by omega) ⟨(q + 1), _, rfl, rfl, rfl, e3, (by omega)⟩
    ·refine do_ rfl (.bool false) (oI (m := ((q : Nat) : Int)) (n := (24 : Int)) (b := false) rfl rfl (decide_eq_false (by omega))) ?_
     simp only [pq]
     refine wlK c7 ?_
     refine aE fun p8 k4 => ?_
     refine aF ?_
     refine cV ?_
     refine f5 _ _ ?_
     obtain rfl : q = 24 := by omega
     refine aB ?_
     refine aC ?_
     have hcap : rest.length ≤ rc := by obtain ⟨_, _, e, q, _⟩ := hrest.shape; injection e with _ _ e; rw [e]; exact q
     have k5 : Bs _ (.slice (if rc = 136 then ra else ra.map (·.add (136 * 1))) (rn - 136) (rc - 136)) (rest.drop 136) := Bs.restD hrest (by omega)
     refine do_ rfl (.slice (if rc = 136 then ra else ra.map (·.add (136 * 1))) (rn - 136) (rc - 136)) (bJ (l := 136) (h := rn) (sz := 1) Tryz.underlying25 rfl (dO _) (.inr ⟨_, rfl, rfl⟩) (.inl ⟨rfl, rfl⟩) (by omega) (by omega) (rfl)) ?_
     refine aC ?_
     refine aG ?_
     have hdl : (rest.drop 136).length = rest.length - 136 := by simp
     exact f3 _ _ _ (by omega) ⟨(nA Xm 24), (if rc = 136 then ra else ra.map (·.add (136 * 1))), (rn - 136), (rc - 136), (rest.drop 136), _, rfl, rfl, rfl, h5, (IT hXl 24), k5, (by omega), (by omega), (XA hXm (by omega) hab)⟩
  ·refine do_ rfl (.bool false) (tK (m := ((rn : Nat) : Int)) (n := (0 : Int)) (b := false) rfl rfl (decide_eq_false (by omega))) ?_
   simp only [pq]
   refine wlK c4 ?_
   refine aF ?_
   refine cV ?_
   refine f2 _ _ ?_
   refine aE fun k6 c8 => ?_
   have hZa := SG (by omega) hab
   refine aB ?_
   refine ZC (k := 1) (n := 32) (m := 32) e1 rfl i5 (.int .u8 0) 1 Tryz.underlying25 hi5 hz5 hs5 hb5 rfl rfl (by omega) (by omega) (by omega) ?_
   intro a4 c9 a8
   rw [SE] at a8
   simp only [pq]
   have a8 : St w F c9 a5 [⟨a4, ((List.replicate 32 (0 : UInt8)).map bv), 5⟩, ⟨a3, (Z.map aS), 217⟩] [] := a8
   have a8 : St w F c9 a5 [⟨a4, ((xX Z 0).map bv), 5⟩, ⟨a3, (Z.map aS), 217⟩] [] := by rw [WX]; exact a8
   refine aC ?_
   refine wlK c8 ?_
   refine aE fun k7 d0 => ?_
   refine wp_seq_k (fun k8 d1 => aB ?_)
   refine aC ?_
   refine wlK d1 ?_
   refine aM ?_
   refine bA (fun mm aa h0 => ∃ (j : Nat) (b2 : Nat → Value), mm = 32 - j ∧ b2 = dV aa ∧ aa = ⟨([(.slice x b.length y), undef, (.slice none 0 0), (.slice ra rn rc), (.pointer (some ⟨a3, 0, none⟩)), (a7 5), (a7 6), (.slice (some ⟨a4, 0, none⟩) 32 32), (b2 8), (.slice x b.length y), v4, (.slice (some ⟨n8, 0, none⟩) 1 1), b5, (.slice (some ⟨a2, 0, none⟩) (eC b (eK b)).length a0), (.int .i64 (((eC b (eK b)).length : Nat) : Int)), (.int .i64 ((((eC b (eK b)).length % 136) : Nat) : Int)), (.bool false)] ++ (usF b6 17 3 ([(.slice (some ⟨a2, 0, none⟩) (eC b (eK b)).length a0), (.slice (some ⟨a2, 0, none⟩) (eC b (eK b)).length a0), (.int .i64 (((eC b (eK b)).length : Nat) : Int)), (.int .i64 ((((eC b (eK b)).length - 1) : Nat) : Int)), (.pointer (some ⟨a2, 0 + ((eC b (eK b)).length - 1) * 1, none⟩)), (bv xb), (bv (xb ||| 128)), (.pointer (some ⟨a2, 0 + ((eC b (eK b)).length - 1) * 1, none⟩)), (.slice ra rn rc), (.int .i64 ((rn : Nat) : Int)), (.bool false)] ++ (usF a7 31 27 ([(.slice (some ⟨a4, 0, none⟩) 32 32), (.slice (some ⟨a4, 0, none⟩) 32 32), (.int .i64 32), (.int .i64 ((j : Nat) : Int))] ++ (usF b2 62 15 [undef])))))).toArray, []⟩ ∧ St w F h0 a5 [⟨a4, ((xX Z j).map bv), 5⟩, ⟨a3, (Z.map aS), 217⟩] [] ∧ (j ≤ 32)) _ ⟨0, _, rfl, rfl, rfl, a8, (by omega)⟩ ?_
   rintro k9 l0 l1 ⟨j, b2, rfl, -, hfr, b1, hj⟩ l2 d2
   simp only [uzF, Nat.reduceAdd] at hfr; subst hfr
   refine wp_seq_k (fun l3 b4 => aB ?_)
   by_cases l4 : j < 32
   ·refine do_ rfl (.bool true) (oI (m := ((j : Nat) : Int)) (n := (32 : Int)) (b := true) rfl rfl (decide_eq_true (by omega))) ?_
    simp only [pq]
    refine wlK b4 ?_
    refine aE fun l5 d3 => ?_
    refine aJ ?_
    refine aH ?_
    refine d3 _ _ ?_
    refine aE fun l6 d4 => ?_
    refine aM ?_
    refine wp_seq_k (fun l7 d5 => aB ?_)
    refine aC ?_
    refine wlK d5 ?_
    refine aB ?_
    refine aC ?_
    refine do_ rfl (.int .i64 (((j / 8) : Nat) : Int)) (UX (m := j) (n := 8) rfl rfl (by decide) (by omega)) ?_
    simp only [pq]
    refine do_ rfl (.pointer (some ⟨a3, (j / 8), none⟩)) (gC (i := (j / 8)) Tryz.underlying217 (cP _) rfl rfl (by omega)) ?_
    simp only [pq]
    refine do_ rfl (aS (at0 Z (j / 8))) (aD rfl (aW (fP _) (St.cell b1 (i := 1) rfl (fQ (Nat.lt_of_lt_of_eq (show (j / 8) < 25 by omega) hZ.symm))))) ?_
    refine aC ?_
    refine do_ rfl (.int .i64 (((j % 8) : Nat) : Int)) (pR (m := j) (n := 8) rfl rfl (by decide) (by omega)) ?_
    simp only [pq]
    refine do_ rfl (.int .i64 ((((j % 8) * 8) : Nat) : Int)) (YZ (m := (((j % 8) : Nat) : Int)) (n := (8 : Int)) (r := ((((j % 8) * 8) : Nat) : Int)) rfl rfl (by omega) (by omega) (by omega)) ?_
    simp only [pq]
    refine do_ rfl (aS ((at0 Z (j / 8)) >>> ((j % 8) * 8))) (Gn (n := ((j % 8) * 8)) rfl rfl (by omega)) ?_
    simp only [pq]
    refine do_ rfl (bv (UInt8.ofNat (((at0 Z (j / 8)) >>> ((j % 8) * 8)).toNat % 256))) (bB (v := (aS ((at0 Z (j / 8)) >>> ((j % 8) * 8)))) rfl (Bd ((at0 Z (j / 8)) >>> ((j % 8) * 8)) _)) ?_
    simp only [pq]
    refine do_ rfl (.pointer (some ⟨a4, 0 + j * 1, none⟩)) (bP (i := j) (sz := 1) Tryz.underlying25 (dO _) rfl rfl rfl (by omega) rfl) ?_
    simp only [pq]
    refine fL (i := 0) (v := bv (UInt8.ofNat (((at0 Z (j / 8)) >>> ((j % 8) * 8)).toNat % 256))) b1 rfl rfl rfl rfl (ZI) (lS rfl) (by rw [List.length_map, PJ]; show 0 + j * 1 + 1 ≤ 32; omega) (fun d6 a6 => ?_)
    simp only [pq]
    have a6 : St w F d6 a5 [⟨a4, (cA ((xX Z j).map bv) (0 + j * 1) [bv (UInt8.ofNat (((at0 Z (j / 8)) >>> ((j % 8) * 8)).toNat % 256))]), 5⟩, ⟨a3, (Z.map aS), 217⟩] [] := a6
    rw [Nat.zero_add, Nat.mul_one, WZ (by rw [PJ]; omega)] at a6
    have a6 : St w F d6 a5 [⟨a4, (((xX Z j).set j (Bg Z j)).map bv), 5⟩, ⟨a3, (Z.map aS), 217⟩] [] := a6
    rw [WY Z (by omega)] at a6
    refine wlK d4 ?_
    refine aB ?_
    refine do_ rfl (.int .i64 (((j + 1) : Nat) : Int)) (iC (m := ((j : Nat) : Int)) (n := (1 : Int)) (r := (((j + 1) : Nat) : Int)) rfl rfl (by omega) (by omega) (by omega)) ?_
    refine aC ?_
    refine aG ?_
    exact d2 _ _ _ (by omega) ⟨(j + 1), _, rfl, rfl, rfl, a6, (by omega)⟩
   ·refine do_ rfl (.bool false) (oI (m := ((j : Nat) : Int)) (n := (32 : Int)) (b := false) rfl rfl (decide_eq_false (by omega))) ?_
    simp only [pq]
    refine wlK b4 ?_
    refine aE fun l8 h6 => ?_
    refine aF ?_
    refine cV ?_
    refine d0 _ _ ?_
    refine aE fun l9 d7 => ?_
    obtain rfl : j = 32 := by omega
    rw [Bh] at b1
    refine aB ?_
    refine aC ?_
    refine wlK d7 ?_
    refine aP ?_
    try simp only [xt]
    refine bodyPost_ret (v := (.slice (some ⟨a4, 0, none⟩) 32 32)) ?_ rfl ?_
    ·exact bK rfl rfl
    ·have hB := St.blkRow (k := 1) (l := NM Z) (el := (NM Z).map fun b => [bv b]) (hR := ByC.mono) (cap := 32) b1 (by rw [sG, List.take_of_length_le (by rw [List.length_map, xY]; decide)]) (sH _ _) (by simp) (by rw [List.length_map, xY]) (by rw [xY]; decide) (by unfold maxLen; decide) (b1.blk _ (List.mem_cons_self ..)).2.2
     rw [xY] at hB
     refine ⟨_, _, rfl, hB.gr, ?_⟩
     have hO := St.own (i := 0) hB rfl
     unfold vI
     rw [← hZa]
     exact hO
 ·refine do_ rfl (.bool true) (cG (m := ((((eC b k).length % 136) : Nat) : Int)) (n := (0 : Int)) (b := true) rfl rfl (bne_iff_ne.2 (by omega))) ?_
  simp only [pq]
  refine wlK c3 ?_
  refine aJ ?_
  refine aH ?_
  refine e6 _ _ ?_
  refine aM ?_
  refine aB ?_
  refine aC ?_
  refine bD d9 (v := fun n => .slice (some ⟨n, 0, none⟩) 1 1) rfl (bS (ps := #[(0, (.int .u8 0))]) (cells := #[(.int .u8 0)]) (E := 5) (cH rfl) (fun w => by kernel_rfl)) (fun h1 h2 b3 => ?_)
  simp only [pq]
  have b3 : St w F h2 F [⟨h1, [(.int .u8 0)], 5⟩] [bZ 1 ByC ByC.mono 5 w.heap.size (.slice i1 (eC b k).length a0) (eC b k)] := b3
  refine eN (i := 0) (r := 0) (p := (0 : UInt8)) (cs := [(.int .u8 0)]) b3 rfl i5 (.int .u8 0) 1 Tryz.underlying25 hi5 hz5 hs5 hb5 rfl (by decide) rfl rfl rfl rfl rfl (sF 0) (rfl) (Nat.le_refl _) b3.gr.below.size (by unfold maxLen; omega) (by omega) ?_
  intro d8 h3 a9 h7
  simp only [pq]
  have a9 := St.drop a9 (L' := []) (.cons _ (List.Sublist.refl _))
  have a9 : St w F h3 F [] [bZ 1 ByC ByC.mono 5 w.heap.size d8 ((eC b k) ++ [(0 : UInt8)])] := a9
  refine aC ?_
  refine aG ?_
  rw [WU] at a9
  have hk2 : k + 1 ≤ eK b := by unfold eK at *; omega
  exact e5 _ _ _ (by omega) ⟨(k + 1), d8, _, rfl, rfl, rfl, a9, hk2⟩
theorem Bk (F : Fz) (w : World) (v : Value) (b : By) (hs : Sat w F) (hT : Tabs w) (hb : Bs F v b) (hn : b.length ≤ 100000) :
    Calls Tryz.prog 117 #[v] w (dB w F fun F' u => Bs F' u (vI b)) :=
  (nT ByC.mono (UY F w v b hs hT hb hn)).mono fun e w' ⟨u, F', he, g, hu⟩ => ⟨u, F', he, g, eU hu⟩
def LsC (F : Fz) (cs : List Value) (p : By) : Prop := ∃ a, cs = [a] ∧ Bs F a p
theorem LsC.mono (F F' : Fz) (x : List Value) (p : By) (hl : Le F F') (h : LsC F x p) : LsC F' x p := by
 obtain ⟨a, h1, h2⟩ := h
 exact ⟨a, h1, h2.mono hl⟩
abbrev Lss (F : Fz) (v : Value) (l : List By) : Prop := Sl 1 LsC F v l
theorem Lss.get {F : Fz} {a : Option Addr} {n c : Nat} {l : List By} (h : Lss F (.slice a n c) l) {i : Nat} {p : By} (hp : l[i]? = some p) :
    ∃ b o, a = some ⟨b, o, none⟩ ∧ ∃ xa xc, bM F b (o + i * 1) = some (.slice xa p.length xc) ∧ Bs F (.slice xa p.length xc) p := by
 obtain ⟨hi, rfl⟩ := List.getElem?_eq_some_iff.1 hp
 have hn := h.len
 obtain ⟨b, o, e, h1⟩ := Sl.at h (by omega) (by omega)
 obtain ⟨cs, q1, ⟨x, rfl, r1⟩, q4⟩ := h1 i hi
 obtain ⟨xa, xc, rfl, _⟩ := r1.shape
 exact ⟨b, o, e, xa, xc, by have := q4 0 (by simp); simpa using this, r1⟩
theorem Lss.mono {F F' : Fz} {v : Value} {l : List By} (h : Lss F v l) (hl : Le F F') : Lss F' v l := Sl.mono LsC.mono h hl
def Bl (b : By) (e : Int) (F : Fz) (u : Value) : Prop := ∃ x, u = .tuple #[x, .int .i64 e] ∧ Bs F x b
theorem Bm (p : By) (h : p.length < 65536) : lD p = b8 (p.length / 256) :: b8 p.length :: p := by
 unfold lD b8
 congr 2
 apply UInt8.toNat_inj.1; simp
theorem zK (p : By) : (lD p).length = 2 + p.length := by simp [lD]; omega
theorem SH {k : UInt8} {ps : List By} {i : Nat} {p : By} (hp : ps[i]? = some p) (h : p.length < 65536) : ((k :: (ps.take i).flatMap lD) ++ [b8 (p.length / 256), b8 p.length]) ++ p = k :: (ps.take (i + 1)).flatMap lD := by
 rw [fK hp, List.flatMap_append]
 simp [Bm p h]
theorem XB {ps : List By} (i : Nat) : ((ps.take i).flatMap lD).length ≤ (ps.flatMap lD).length := by
 conv => rhs; rw [← List.take_append_drop i ps, List.flatMap_append, List.length_append]
 omega
theorem Bn {ps : List By} {i : Nat} {p : By} (hp : ps[i]? = some p) : ((ps.take i).flatMap lD).length + 2 + p.length ≤ (ps.flatMap lD).length := by
 have := XB (ps := ps) (i + 1)
 rw [fK hp, List.flatMap_append, List.length_append] at this
 simp only [List.flatMap_cons, List.flatMap_nil, List.append_nil, zK] at this
 omega
theorem wE (F : Fz) (w : World) (v : Value) (kd : UInt8) (ps : List By) (hs : Sat w F) (hT : Tabs w) (hp : Lss F v ps) (hn : (ps.flatMap lD).length ≤ 3999) :
    Calls Tryz.prog 121 #[bv kd, v] w (dB w F (Bl (yR kd ps) 0)) := by
 obtain ⟨x, y, rfl, hc1', hc2'⟩ := Sl.shape hp
 unfold maxLen at hc2'
 obtain ⟨i5, hi5, hz5, hs5, hb5⟩ := info_parts rK
 have S := St.start hs
 go_enter Tryz.func121, Tryz.ntmps121
 refine sk fun K1 hK1 => ?_
 iterate 2 refine dy ?_
 refine wn hK1 ?_
 refine sk fun K2 hK2 => ?_
 refine dx ?_
 simp only [pq]
 refine bD S (v := fun n => .slice (aA n 0) 1 1) rfl (bS (ps := #[(0, (bv kd))]) (cells := #[(bv kd)]) (E := 5) (cH rfl) (fun w => by kernel_rfl)) (fun n3 w4 S5 => ?_)
 refine dy ?_
 refine wn hK2 ?_
 refine aE fun K6 hK6 => ?_
 refine sk fun K7 hK7 => ?_
 refine aC ?_
 refine wn hK7 ?_
 refine aM ?_
 have S8 : St w F w4 F [] [bZ 1 ByC ByC.mono 5 w.heap.size (.slice (aA n3 0) 1 1) [kd]] := St.blkRow (k := 1) (l := [kd]) (el := [[bv kd]]) (hR := ByC.mono) S5 rfl ⟨rfl, trivial⟩ (by simp) rfl (by simp) (by unfold maxLen; decide) (S5.blk _ (List.mem_cons_self ..)).2.2
 refine bA (fun mm aa c9 => ∃ (k : Nat) (v : Value) (F9 : Fz) (a1 : Nat → Value), mm = ps.length - k ∧ a1 = dV aa ∧ aa = ⟨([(bv kd), (.slice x ps.length y), undef, undef, (a1 4), (a1 5), v, undef, (a1 8), (bv kd), (.slice (aA n3 0) 1 1), (.slice x ps.length y), (nI ps.length), (nI k)] ++ (usF a1 14 28 [undef, undef])).toArray, []⟩ ∧ St w F c9 F9 [] [bZ 1 ByC ByC.mono 5 w.heap.size v (kd :: (ps.take k).flatMap lD)] ∧ Le F F9 ∧ (k ≤ ps.length)) _ ⟨0, (.slice (aA n3 0) 1 1), F, _, rfl, rfl, rfl, S8, Le.refl _, (by omega)⟩ ?_
 rintro f0 f1 f2 ⟨k, v, F9, a1, rfl, -, hfr, a2, a3, hk⟩ f3 a8
 simp only [uzF, Nat.reduceAdd] at hfr; subst hfr
 refine sk fun f4 a4 => ?_
 by_cases a9 : k < ps.length
 ·refine eZ ?_
  refine wn a4 ?_
  refine aE fun f5 b0 => ?_
  refine aJ ?_
  refine aH ?_
  refine b0 _ _ ?_
  refine aE fun f6 b1 => ?_
  refine aM ?_
  refine aE fun f7 b2 => ?_
  obtain ⟨p, hp1⟩ : ∃ p, ps[k]? = some p := ⟨ps[k], List.getElem?_eq_getElem a9⟩
  have hat := Bn hp1
  obtain ⟨d0, d1, b3, b4, b5, d2, d3⟩ := Lss.get (hp.mono a3) hp1
  refine aB ?_
  refine dr (pP d0 (d1 + k * 1)) (bP (i := k) (sz := 1) Tryz.underlying219 (iR _) rfl b3 rfl (by omega) rfl) ?_
  refine dr _ (aD rfl (aW (bI _) (St.fz a2 d2))) ?_
  refine dy ?_
  simp only [pq]
  refine wlK b2 ?_
  refine aE fun f8 b6 => ?_
  refine aE fun f9 b7 => ?_
  obtain ⟨g0, c5, rfl, g1, d4⟩ := (a2.own (i := 0) rfl).shape
  unfold maxLen at d4
  have hlen : (kd :: (ps.take k).flatMap lD).length = 1 + ((ps.take k).flatMap lD).length := by rw [List.length_cons]; omega
  refine aB ?_
  refine aC ?_
  refine mO ?_
  refine aC ?_
  refine cO ((((kd :: (ps.take k).flatMap lD).length + 2) : Nat) : Int) ?_
  refine aC ?_
  refine cO (((((kd :: (ps.take k).flatMap lD).length + 2) + p.length) : Nat) : Int) ?_
  refine mO ?_
  refine dp ?_
  simp only [pq]
  refine wlK b7 ?_
  refine aF ?_
  refine aH ?_
  refine b6 _ _ ?_
  refine aB ?_
  refine aC ?_
  refine dr (nI (p.length / 256)) (BM (m := p.length) (n := 8) rfl rfl (by decide)) ?_
  refine dr (bv (b8 (p.length / 256))) (bB (v := (nI (p.length / 256))) rfl (iY (p.length / 256) _)) ?_
  refine aC ?_
  refine dr (bv (b8 p.length)) (bB (v := (nI p.length)) rfl (iY p.length _)) ?_
  refine bD a2 (v := fun n => .slice (aA n 0) 2 2) rfl (bS (ps := #[(0, (bv (b8 (p.length / 256)))), (1, (bv (b8 p.length)))]) (cells := #[(bv (b8 (p.length / 256))), (bv (b8 p.length))]) (E := 5) (fY rfl rfl) (fun w => by kernel_rfl)) (fun b9 d5 d6 => ?_)
  simp only [pq]
  obtain ⟨c0, a5, c1⟩ := St.freezeBlk d6 (i := 0) rfl
  have d7 : Bs _ (.slice (some ⟨b9, 0, none⟩) 2 2) ([(b8 (p.length / 256)), (b8 p.length)] : By) := gE (l := ([(b8 (p.length / 256)), (b8 p.length)] : By)) c1 rfl (by unfold maxLen; simp)
  generalize addF F9 d5 b9 = c6 at *
  refine eE (r := 0) (u := (.slice (aA b9 0) 2 2)) c0 rfl i5 (.int .u8 0) 1 Tryz.underlying25 hi5 hz5 hs5 hb5 rfl (by decide) rfl rfl rfl (Sl.toW (Bs.sl d7) (c0).sat) ByC.one (Nat.le_refl _) c0.gr.below.size (by unfold maxLen; simp only [List.length_append, List.length_cons, List.length_nil]; omega) (by simp only [List.length_append, List.length_cons, List.length_nil]; omega) ?_
  intro g2 g3 c2 d8
  refine dx ?_
  refine eE (r := 0) (u := (.slice b4 p.length b5)) c2 rfl i5 (.int .u8 0) 1 Tryz.underlying25 hi5 hz5 hs5 hb5 rfl (by decide) rfl rfl rfl (Sl.toW (Bs.sl (d3.mono a5)) (c2).sat) ByC.one (Nat.le_refl _) c2.gr.below.size (by unfold maxLen; simp only [List.length_append, List.length_cons, List.length_nil]; omega) (by simp only [List.length_append, List.length_cons, List.length_nil]; omega) ?_
  intro c7 d9 a7 e0
  simp only [pq]
  have a7 : St w F d9 c6 [] [bZ 1 ByC ByC.mono 5 w.heap.size c7 (((kd :: (ps.take k).flatMap lD) ++ ([(b8 (p.length / 256)), (b8 p.length)] : By)) ++ p)] := a7
  refine dy ?_
  refine wlK b1 ?_
  refine aB ?_
  refine cO (k + 1) ?_
  refine dx ?_
  simp only [pq]
  refine aG ?_
  rw [SH hp1 (by omega)] at a7
  exact a8 _ _ _ (by omega) ⟨(k + 1), c7, c6, _, rfl, rfl, rfl, a7, (a3.trans a5), (by omega)⟩
 ·refine eT ?_
  refine wn a4 ?_
  refine aE fun g4 e1 => ?_
  refine aF ?_
  refine cV ?_
  refine hK6 _ _ ?_
  refine aE fun g5 c3 => ?_
  have hend : ps.take k = ps := List.take_of_length_le (by omega)
  rw [hend] at a2
  obtain ⟨e2, a6, rfl, g6, e3⟩ := (a2.own (i := 0) rfl).shape
  unfold maxLen at e3
  obtain ⟨g7, c4, e4, a0⟩ := St.freeze a2 (i := 0) rfl (Nat.le_refl _)
  have a0 : Bys _ (.slice e2 (yQ kd ps).length a6) (yQ kd ps) := a0
  have e5 := eU a0
  have hpl : (yQ kd ps).length = 1 + (ps.flatMap lD).length := by unfold yQ; rw [List.length_cons]; omega
  refine aB ?_
  refine dx ?_
  refine aR c4 rfl (fn1 (UF _ _)) (Bk _ _ _ (yQ kd ps) (c4).sat (hT.at c4.gr.below) e5 (by omega)) ?_
  intro g8 g9 h0 e6 e7 c8
  obtain ⟨e8, e9, rfl, _⟩ := c8.shape
  refine aC ?_
  refine wlK c3 ?_
  refine aP ?_
  try simp only [xt]
  refine bR (cC rfl (gD rfl) (gD rfl)) ?_
  ·exact ⟨_, _, rfl, e6.gr, _, rfl, c8⟩
theorem SI {F : Fz} {v : Value} {l m : By} (h : Bs F v l) (e : l = m) : Bs F v m := e ▸ h
theorem XC (F : Fz) (w : World) (v : Value) (p : Pr) (hs : Sat w F) (hT : Tabs w) (hv : Pr2V F v p) (hk : p.1.length ≤ 1000) (hx : p.2.length ≤ 1000) :
    Calls Tryz.prog 139 #[v] w (dB w F fun F' u => Bs F' u (NR p)) := by
 obtain ⟨x0, y0, x1, y1, rfl, h0, h1⟩ := hv
 have S := St.start hs
 go_enter Tryz.func139, Tryz.ntmps139
 refine sk fun K1 hK1 => ?_
 refine bD S (v := fun n => .pointer (aA n 0)) rfl (cB (v := (.agg #[(.slice x0 p.1.length y0), (.slice x1 p.2.length y1)])) rfl) (fun n2 w3 S4 => ?_)
 refine dy ?_
 refine wn hK1 ?_
 refine sk fun K5 hK5 => ?_
 refine aC ?_
 refine bD S4 (v := fun n => .slice (aA n 0) 2 2) rfl (bS (ps := #[(0, (.slice x0 p.1.length y0)), (1, (.slice x1 p.2.length y1))]) (cells := #[(.slice x0 p.1.length y0), (.slice x1 p.2.length y1)]) (E := 25) (fY rfl rfl) (fun w => by kernel_rfl)) (fun n6 w7 S8 => ?_)
 simp only [pq]
 obtain ⟨S9, a0, a2⟩ := St.freezeBlk S8 (i := 0) rfl
 have a6 : Lss _ (.slice (some ⟨n6, 0, none⟩) 2 2) ([p.1, p.2] : List By) := gF (R := LsC) (l := ([p.1, p.2] : List By)) (el := [[(.slice x0 p.1.length y0)], [(.slice x1 p.2.length y1)]]) a2 rfl ⟨⟨_, rfl, (h0.mono a0)⟩, ⟨_, rfl, (h1.mono a0)⟩, trivial⟩ (by simp) (by unfold maxLen; simp)
 generalize addF F w7 n6 = b0 at *
 refine aR S9 rfl (fn2 (KI _ _)) (wE _ _ _ 1 [p.1, p.2] (S9).sat (hT.at S9.gr.below) a6 (by simp [zK]; omega)) ?_
 intro b1 b2 b3 a7 a8 a9
 obtain ⟨b4, rfl, a1⟩ := a9
 obtain ⟨a3, a4, rfl, _⟩ := a1.shape
 have a1 : Bs _ (.slice a3 (NR p).length a4) (NR p) := a1
 refine aC ?_
 refine wn hK5 ?_
 refine sk fun b5 a5 => ?_
 refine aC ?_
 refine wn a5 ?_
 refine aP ?_
 try simp only [xt]
 refine bR (bK rfl (gD rfl)) ?_
 exact ⟨_, _, rfl, a7.gr, a1⟩
theorem XD (F : Fz) (w : World) (v u : Value) (bit : Nat) (a b : By) (hs : Sat w F) (hT : Tabs w) (h0 : Bs F v a) (h1 : Bs F u b) (hk : a.length ≤ 1000) (hx : b.length ≤ 1000) :
    Calls Tryz.prog 141 #[.int .i64 (bit : Nat), v, u] w (dB w F fun F' u => Bs F' u (CK bit a b)) := by
 obtain ⟨x0, y0, rfl, _⟩ := h0.shape
 obtain ⟨x1, y1, rfl, _⟩ := h1.shape
 have S := St.start hs
 go_enter Tryz.func141, Tryz.ntmps141
 refine sk fun K1 hK1 => ?_
 refine dy ?_
 refine wn hK1 ?_
 refine sk fun K2 hK2 => ?_
 refine dx ?_
 refine dr (bv (b8 bit)) (bB (v := (nI bit)) rfl (iY bit _)) ?_
 simp only [pq]
 refine bD S (v := fun n => .slice (aA n 0) 1 1) rfl (bS (ps := #[(0, (bv (b8 bit)))]) (cells := #[(bv (b8 bit))]) (E := 5) (cH rfl) (fun w => by kernel_rfl)) (fun n3 w4 S5 => ?_)
 iterate 2 refine dx ?_
 refine bD S5 (v := fun n => .slice (aA n 0) 3 3) rfl (bS (ps := #[(0, (.slice (aA n3 0) 1 1)), (1, (.slice x0 a.length y0)), (2, (.slice x1 b.length y1))]) (cells := #[(.slice (aA n3 0) 1 1), (.slice x0 a.length y0), (.slice x1 b.length y1)]) (E := 25) (NU rfl rfl rfl) (fun w => by kernel_rfl)) (fun n6 w7 S8 => ?_)
 simp only [pq]
 obtain ⟨S9, a1, a3⟩ := St.freezeBlk S8 (i := 1) rfl
 have a9 : Bs _ (.slice (some ⟨n3, 0, none⟩) 1 1) ([(b8 bit)] : By) := gE (l := ([(b8 bit)] : By)) a3 rfl (by unfold maxLen; simp)
 generalize addF F w7 n3 = b0 at *
 obtain ⟨a4, a0, a5⟩ := St.freezeBlk S9 (i := 0) rfl
 have b1 : Lss _ (.slice (some ⟨n6, 0, none⟩) 3 3) ([([(b8 bit)] : By), a, b] : List By) := gF (R := LsC) (l := ([([(b8 bit)] : By), a, b] : List By)) (el := [[(.slice (some ⟨n3, 0, none⟩) 1 1)], [(.slice x0 a.length y0)], [(.slice x1 b.length y1)]]) a5 rfl ⟨⟨_, rfl, (a9.mono a0)⟩, ⟨_, rfl, ((h0.mono a1).mono a0)⟩, ⟨_, rfl, ((h1.mono a1).mono a0)⟩, trivial⟩ (by simp) (by unfold maxLen; simp)
 generalize addF b0 w7 n6 = b5 at *
 refine aR a4 rfl (fn2 (KI _ _)) (wE _ _ _ 2 [([(b8 bit)] : By), a, b] (a4).sat (hT.at a4.gr.below) b1 (by simp [zK]; omega)) ?_
 intro b6 b7 b9 b2 b3 b4
 obtain ⟨c0, rfl, a2⟩ := b4
 obtain ⟨a6, a7, rfl, _⟩ := a2.shape
 have a2 : Bs _ (.slice a6 (CK bit a b).length a7) (CK bit a b) := a2
 refine aC ?_
 refine wn hK2 ?_
 refine sk fun c1 a8 => ?_
 refine aC ?_
 refine wn a8 ?_
 refine aP ?_
 try simp only [xt]
 refine bR (bK rfl (gD rfl)) ?_
 ·exact ⟨_, _, rfl, b2.gr, a2⟩
theorem PK {l : List Pr} {bit n : Nat} {p : Pr} (hlo : ∀ (i : Nat) (h : i < l.length), i < n → cY l[i].1 bit = false) (hp : l[n]? = some p) (hb : cY p.1 bit = false) : ∀ (i : Nat) (h : i < l.length), i < n + 1 → cY l[i].1 bit = false := by
 intro i h hi
 by_cases e : i = n
 ·subst e; obtain ⟨_, e⟩ := List.getElem?_eq_some_iff.1 hp; rw [e]; exact hb
 ·exact hlo i h (by omega)
theorem UZ {F : Fz} {w : World} {v u : Value} {a b : By} {n : Nat} (hs : Sat w F) (hv : Bs F v a) (hu : Bs F u b) (h : pG a b = n) (ha : 1 ≤ a.length ∧ a.length ≤ 16) (hb : 1 ≤ b.length ∧ b.length ≤ 16) :
    Calls Tryz.prog 142 #[v, u] w fun e w' => e = .returned (.tuple #[.int .i64 (n : Nat), .int .i64 0]) ∧ w' = w := by
 have := VN F w v u a b hs hv hu ha.1 ha.2 hb.1 hb.2
 rwa [h] at this
theorem PL (F : Fz) (w : World) (v : Value) (l : List Pr) (hs : Sat w F) (hv : Prs F v l) (hk : KeysOk l) (h2 : 2 ≤ l.length) (e1 : l.length ≤ 60) :
    Calls Tryz.prog 140 #[v] w (cU w (.tuple #[.int .i64 (aX l : Nat), .int .i64 (bC (aX l) l : Nat)])) := by
 obtain ⟨a, c, rfl, hc1, hc2⟩ := Sl.shape hv
 unfold maxLen at hc2
 have S := St.start hs
 go_enter Tryz.func140, Tryz.ntmps140
 refine sk fun K1 hK1 => ?_
 iterate 2 refine dy ?_
 refine wn hK1 ?_
 refine aE fun K2 hK2 => ?_
 obtain ⟨p0, hp0⟩ : ∃ p, l[0]? = some p := ⟨l[0], List.getElem?_eq_getElem (by omega)⟩
 obtain ⟨p1, hp1⟩ : ∃ p, l[l.length - 1]? = some p := ⟨l[l.length - 1], List.getElem?_eq_getElem (by omega)⟩
 have hq0 := hk.key p0 (List.mem_of_getElem? hp0)
 have hq1 := hk.key p1 (List.mem_of_getElem? hp1)
 obtain ⟨hb1, hpb, _, _⟩ := nZ hk h2
 rw [(List.getElem?_eq_some_iff.1 hp0).2, (List.getElem?_eq_some_iff.1 hp1).2] at hpb
 obtain ⟨b3, o4, ha5, xa7, xc8, c7, c8, c6, e2, r9, e3⟩ := Prs.get hv hp0
 obtain ⟨e4, e5, a8, a1, a2, c9, d0, d1, e6, d2, e7⟩ := Prs.get hv hp1
 have hq_ := ha5.symm.trans a8; injection hq_ with hq_; injection hq_ with hq1_ hq2_; subst hq1_; subst hq2_
 refine aT F 16 [(11, .is (.tuple #[(nI (aX l)), (iI 0)]))] (by kernel_rfl) (by kernel_rfl) ?_
 simp only [dD]
 refine gm ?_
 simp only [pq]
 refine gv (pP b3 (o4 + 0 * 2)) (fun _ _ => bP (i := 0) (sz := 2) Tryz.underlying47 (bL _) rfl ha5 rfl (by omega) rfl) ?_
 refine gf (nR _ _) ?_
 refine gv _ (fun _ a3 => aD rfl (aW (bI _) (St.fz (St.tells S a3) c6))) ?_
 simp only [pq]
 iterate 2 refine gm ?_
 refine gv (nI l.length) (fun _ _ => pW Tryz.underlying47 rfl) ?_
 simp only [pq]
 refine gv (nI (l.length - 1)) (fun _ _ => tL (m := ((l.length : Nat) : Int)) (n := (1 : Int)) (r := (((l.length - 1) : Nat) : Int)) rfl rfl (by omega) (by omega) (by omega)) ?_
 refine gv (pP b3 (o4 + (l.length - 1) * 2)) (fun _ _ => bP (i := (l.length - 1)) (sz := 2) Tryz.underlying47 (bL _) rfl ha5 rfl (by omega) rfl) ?_
 refine gf (nR _ _) ?_
 simp only [pq]
 refine gv _ (fun _ a3 => aD rfl (aW (bI _) (St.fz (St.tells S a3) d1))) ?_
 simp only [pq]
 refine gY rfl rfl (v := (.tuple #[(nI (aX l)), (iI 0)])) (fun e8 a3 _ => bO (cK (vs := #[(.slice xa7 p0.1.length xc8), (.slice a1 p1.1.length a2)]) (iD rfl rfl) rfl (UJ _ _)) (iB (eI (UZ ((St.tells S a3)).sat r9 d2 hpb hq0 hq1)))) ?_
 refine gm ?_
 refine gv (nI (aX l)) (fun _ _ => bV rfl rfl) ?_
 refine gv (iI 0) (fun _ _ => bV rfl rfl) ?_
 simp only [pq]
 refine ga ?_
 refine bY ?_
 intro e9 a9 b0
 clear b0
 have d3 := St.tells S a9
 simp only [dE]
 refine dy ?_
 refine wlK hK2 ?_
 refine sk fun f0 b1 => ?_
 refine dy ?_
 simp only [pq]
 refine wn b1 ?_
 refine aE fun f1 a4 => ?_
 refine aM ?_
 refine bA (fun mm aa d4 => ∃ (n : Nat) (a5 : Nat → Value), mm = l.length - n ∧ a5 = dV aa ∧ aa = ⟨([(.slice a l.length c), undef, (iI 0), (iI 0), (nI (aX l)), (iI 0), (nI n), (a5 7), (a5 8), (.tuple #[(nI (aX l)), (iI 0)]), (.slice a l.length c), (pP b3 (o4 + 0 * 2)), (pP b3 (o4 + 0 * 2)), (.slice xa7 p0.1.length xc8), (.slice a l.length c), (.slice a l.length c), (nI l.length), (nI (l.length - 1)), (pP b3 (o4 + (l.length - 1) * 2)), (pP b3 (o4 + (l.length - 1) * 2)), (.slice a1 p1.1.length a2), (.tuple #[(nI (aX l)), (iI 0)]), (nI (aX l)), (iI 0)] ++ (usF a5 24 17 [undef, undef])).toArray, []⟩ ∧ St w F d4 F [] [] ∧ (n ≤ l.length) ∧ (∀ (i : Nat) (h : i < l.length), i < n → cY l[i].1 (aX l) = false)) _ ⟨0, _, rfl, rfl, rfl, d3, (by omega), (fun i _ h => by omega)⟩ ?_
 rintro f2 f3 f4 ⟨n, a5, rfl, -, hfr, a7, hn, hlo⟩ f5 b2
 simp only [uzF, Nat.reduceAdd] at hfr; subst hfr
 refine aE fun f6 b4 => ?_
 refine sk fun f7 a6 => ?_
 refine aC ?_
 by_cases b5 : n < l.length
 refine eZ ?_
 refine wn a6 ?_
 refine aJ ?_
 refine aH ?_
 refine b4 _ _ ?_
 refine aM ?_
 refine aE fun f8 b6 => ?_
 refine aE fun f9 b7 => ?_
 obtain ⟨p, hp⟩ : ∃ p, l[n]? = some p := ⟨l[n], List.getElem?_eq_getElem b5⟩
 have hpp := hk.key p (List.mem_of_getElem? hp)
 obtain ⟨d5, d6, b9, c0, c1, d7, d8, d9, g0, e0, g1⟩ := Prs.get hv hp
 refine aB ?_
 iterate 2 refine dx ?_
 refine dr (pP d5 (d6 + n * 2)) (bP (i := n) (sz := 2) Tryz.underlying47 (bL _) rfl b9 rfl (by omega) rfl) ?_
 simp only [pq]
 refine df (nR _ _) ?_
 refine dr _ (aD rfl (aW (bI _) (St.fz a7 d9))) ?_
 refine dx ?_
 simp only [pq]
 refine aI (v := (.tuple #[(.bool (cY p.1 (aX l))), (iI 0)])) a7 rfl (cK (vs := #[(.slice c0 p.1.length c1), (nI (aX l))]) (iD rfl rfl) rfl (KK _ _)) (eI (yK _ _ _ p.1 _ (a7).sat e0 hpp.1 hpp.2 (by omega) (by omega))) (fun g2 c5 => ?_)
 refine aC ?_
 refine wlK b7 ?_
 refine sk fun g3 c2 => ?_
 refine dx ?_
 simp only [pq]
 refine wn c2 ?_
 refine wp_cond_split rfl (fun a0 => ?_) (fun a0 => ?_)
 refine cV ?_
 refine a4 _ _ ?_
 refine sk fun g4 c3 => ?_
 refine aC ?_
 refine wn c3 ?_
 refine aP ?_
 try simp only [xt]
 refine bR (cC rfl (gD rfl) (gD rfl)) ?_
 obtain rfl : bC (aX l) l = n := nL hn hlo (fun h => by obtain ⟨_, e⟩ := List.getElem?_eq_some_iff.1 hp; rw [e]; exact a0)
 exact ⟨rfl, c5.gr.below⟩
 refine aH ?_
 refine b6 _ _ ?_
 refine aB ?_
 refine dx ?_
 refine cO (n + 1) ?_
 refine dy ?_
 simp only [pq]
 refine aG ?_
 exact b2 _ _ _ (by omega) ⟨(n + 1), _, rfl, rfl, rfl, c5, (by omega), (PK hlo hp a0)⟩
 refine eT ?_
 refine wn a6 ?_
 refine aF ?_
 refine cV ?_
 refine a4 _ _ ?_
 refine sk fun g5 c4 => ?_
 refine aC ?_
 refine wn c4 ?_
 refine aP ?_
 try simp only [xt]
 refine bR (cC rfl (gD rfl) (gD rfl)) ?_
 obtain rfl : bC (aX l) l = n := nL hn hlo (fun h => by omega)
 exact ⟨rfl, a7.gr.below⟩
theorem XE {l : List Pr} (h : KeysOk l) (n : Nat) : KeysOk (l.take n) := h.sub (List.take_sublist _ _)
theorem XF {l : List Pr} (h : KeysOk l) (n : Nat) : KeysOk (l.drop n) := h.sub (List.drop_sublist _ _)
theorem XG (m : Nat) (ih : ∀ (F : Fz) (w : World) (v : Value) (l : List Pr), Sat w F → Tabs w → Prs F v l → KeysOk l → 1 ≤ l.length → l.length ≤ 60 → l.length ≤ m → (∀ p ∈ l, p.2.length ≤ 32) →
      Calls Tryz.prog 122 #[v] w (dB w F fun F' u => Bs F' u (dU l)))
    (F : Fz) (w : World) (v : Value) (l : List Pr) (hs : Sat w F) (hT : Tabs w) (hv : Prs F v l) (hk : KeysOk l) (h1 : 1 ≤ l.length) (b9 : l.length ≤ 60) (hm : l.length ≤ m + 1) (hx : ∀ p ∈ l, p.2.length ≤ 32) :
    Calls Tryz.prog 122 #[v] w (dB w F fun F' u => Bs F' u (dU l)) := by
 obtain ⟨a, c, rfl, hc1, hc2⟩ := Sl.shape hv
 unfold maxLen at hc2
 have S := St.start hs
 go_enter Tryz.func122, Tryz.ntmps122
 refine sk fun K1 hK1 => ?_
 refine dy ?_
 refine wn hK1 ?_
 refine aE fun K2 hK2 => ?_
 refine sk fun K3 hK3 => ?_
 refine aC ?_
 by_cases hc7 : l.length = 1
 refine iQ ?_
 refine wn hK3 ?_
 refine aJ ?_
 refine aE fun K4 hK4 => ?_
 obtain ⟨p, hp⟩ : ∃ p, l[0]? = some p := ⟨l[0], List.getElem?_eq_getElem (by omega)⟩
 have hp1 := (hk.key p (List.mem_of_getElem? hp)).2
 have hp2 := hx p (List.mem_of_getElem? hp)
 have hone : l = [p] := by obtain ⟨q, rfl⟩ := List.length_eq_one_iff.1 (show l.length = 1 by omega); simp at hp; rw [hp]
 obtain ⟨b5, o6, ha7, xa9, c0, c1, c2, c8, c3, c4, c5⟩ := Prs.get hv hp
 refine aB ?_
 refine dx ?_
 refine dr (pP b5 (o6 + 0 * 2)) (bP (i := 0) (sz := 2) Tryz.underlying47 (bL _) rfl ha7 rfl (by omega) rfl) ?_
 refine dr _ (aD rfl (cN Tryz.underlying50 rfl (dL) (kC (St.fz S c8) (St.fz S c3)))) ?_
 simp only [pq]
 refine aR S rfl (fn1 (Fs _ _)) (XC _ _ _ p (S).sat (hT.at S.gr.below) ⟨_, _, _, _, rfl, c4, c5⟩ (by omega) (by omega)) ?_
 intro d4 d5 d6 c6 c7 b3
 obtain ⟨c9, d0, rfl, _⟩ := b3.shape
 refine dy ?_
 refine wlK hK4 ?_
 refine aP ?_
 try simp only [xt]
 refine bR (bK rfl (gD rfl)) ?_
 exact ⟨_, _, rfl, c6.gr, SI b3 (by rw [hone]; exact (VY p).symm)⟩
 refine gB ?_
 refine wn hK3 ?_
 refine aF ?_
 refine aH ?_
 refine hK2 _ _ ?_
 refine aE fun d7 a6 => ?_
 have hl2 : 2 ≤ l.length := by omega
 obtain ⟨hn1, hn2⟩ := oF hk hl2
 have hb1 := (nZ hk hl2).1
 refine aB ?_
 refine dx ?_
 simp only [pq]
 refine aI (v := (.tuple #[(nI (aX l)), (nI (bC (aX l) l))])) S rfl (fn1 (Fu _ _)) (PL _ _ _ l (S).sat hv hk hl2 b9) (fun d8 d1 => ?_)
 refine aC ?_
 refine wlK a6 ?_
 refine aE fun d9 a7 => ?_
 have hfl : Prs _ (.slice a (bC (aX l) l) c) (l.take (bC (aX l) l)) := Sl.takeN hv (by omega)
 have hfr : Prs _ (.slice (if c = (bC (aX l) l) then a else a.map (·.add ((bC (aX l) l) * 2))) (l.length - (bC (aX l) l)) (c - (bC (aX l) l))) (l.drop (bC (aX l) l)) := Sl.dropD (by decide) hv (by omega)
 refine jY d1 (by kernel_rfl) (fun e0 a1 => ?_)
 refine gT 0 rfl a1.sat ?_
 simp only [pq]
 refine gT 1 rfl a1.sat ?_
 simp only [pq]
 refine gT 2 rfl a1.sat ?_
 simp only [pq]
 refine dJ 3 rfl (.slice a (bC (aX l) l) c) a1.sat (fun _ _ => bJ (l := 0) (h := (bC (aX l) l)) (sz := 2) Tryz.underlying47 rfl (bL _) (.inl ⟨rfl, rfl⟩) (.inr ⟨_, rfl, rfl⟩) (by omega) (by omega) (gL)) ?_
 simp only [pq]
 refine gT 5 rfl a1.sat ?_
 simp only [pq]
 refine gT 6 rfl a1.sat ?_
 simp only [pq]
 refine dJ 7 rfl (.slice (if c = (bC (aX l) l) then a else a.map (·.add ((bC (aX l) l) * 2))) (l.length - (bC (aX l) l)) (c - (bC (aX l) l))) a1.sat (fun _ _ => bJ (l := (bC (aX l) l)) (h := l.length) (sz := 2) Tryz.underlying47 rfl (bL _) (.inr ⟨_, rfl, rfl⟩) (.inl ⟨rfl, rfl⟩) (by omega) (by omega) (rfl)) ?_
 simp only [pq]
 refine eB 4 (by kernel_rfl) rfl ?_
 refine aR a1 rfl (fn1 (KJ _ _)) (ih _ _ _ (l.take (bC (aX l) l)) (a1).sat (hT.at a1.gr.below) hfl (XE hk _) (by rw [List.length_take]; omega) (by rw [List.length_take]; omega) (by rw [List.length_take]; omega) (fun q hq => hx q (List.mem_of_mem_take hq))) ?_
 intro e1 e2 e3 a4 a0 b4
 obtain ⟨a8, a9, rfl, _⟩ := b4.shape
 refine aG (cW (Sat.le a4.sat a0) ?_)
 refine eB 8 (by kernel_rfl) rfl ?_
 refine aR a4 rfl (cK (vs := #[(.slice (if c = (bC (aX l) l) then a else a.map (·.add ((bC (aX l) l) * 2))) (l.length - (bC (aX l) l)) (c - (bC (aX l) l)))]) (lG rfl) rfl (KJ _ _)) (ih _ _ _ (l.drop (bC (aX l) l)) (a4).sat (hT.at a4.gr.below) (hfr.mono a0) (XF hk _) (by rw [List.length_drop]; omega) (by rw [List.length_drop]; omega) (by rw [List.length_drop]; omega) (fun q hq => hx q (List.mem_of_mem_drop hq))) ?_
 intro e4 e5 e6 a5 a2 b6
 obtain ⟨b0, b1, rfl, _⟩ := b6.shape
 simp only [pq]
 refine aG (cW (Sat.le a5.sat (a0.trans a2)) ?_)
 refine eB 9 (by kernel_rfl) rfl ?_
 refine aR a5 rfl (cK (vs := #[(nI (aX l)), (.slice a8 (dU (l.take (bC (aX l) l))).length a9), (.slice b0 (dU (l.drop (bC (aX l) l))).length b1)]) (JS rfl rfl rfl) rfl (Fv _ _)) (XD _ _ _ _ (aX l) (dU (l.take (bC (aX l) l))) (dU (l.drop (bC (aX l) l))) (a5).sat (hT.at a5.gr.below) (b4.mono a2) b6 (by rw [uP]; omega) (by rw [uP]; omega)) ?_
 intro e7 e8 e9 b2 a3 b7
 obtain ⟨d2, d3, rfl, _⟩ := b7.shape
 refine aG (cW (Sat.le b2.sat ((a0.trans a2).trans a3)) ?_)
 refine kI 10 rfl (Sat.le b2.sat ((a0.trans a2).trans a3)) ?_
 simp only [pq]
 refine kA (by kernel_rfl) ?_
 refine a7 _ _ ?_
 refine aP ?_
 try simp only [xt]
 refine bR (bK rfl (gD rfl)) ?_
 exact ⟨_, _, rfl, b2.gr, SI b7 (RB hk hl2).symm⟩
theorem XH (m : Nat) : ∀ (F : Fz) (w : World) (v : Value) (l : List Pr), Sat w F → Tabs w → Prs F v l → KeysOk l → 1 ≤ l.length → l.length ≤ 60 → l.length ≤ m → (∀ p ∈ l, p.2.length ≤ 32) →
      Calls Tryz.prog 122 #[v] w (dB w F fun F' u => Bs F' u (dU l)) := by
 induction m with
 | zero => intro F w v l _ _ _ _ h1 _ hm; omega
 | succ m ih => intro F w v l hs hT hv hk h1 a0 hm hx; exact XG m ih F w v l hs hT hv hk h1 a0 hm hx
theorem XI (F : Fz) (w : World) (v : Value) (l : List Pr) (hs : Sat w F) (hT : Tabs w) (hv : Prs F v l) (ok : TreeOk 60 l) (hz : 1 ≤ l.length) :
    Calls Tryz.prog 100 #[v] w (dB w F (Bl (dU l) 0)) := by
 obtain ⟨a, c, rfl, hc1, hc2⟩ := Sl.shape hv
 unfold maxLen at hc2
 have S := St.start hs
 go_enter Tryz.func100, Tryz.ntmps100
 refine sk fun K1 hK1 => ?_
 iterate 2 refine dy ?_
 refine wn hK1 ?_
 refine aE fun K2 hK2 => ?_
 refine sk fun K3 hK3 => ?_
 refine dx ?_
 simp only [pq]
 refine aI (v := (iI 0)) S rfl (fn1 (vW _ _)) (rA _ _ _ l (S).sat hv ok) (fun w4 S5 => ?_)
 refine dy ?_
 refine wn hK3 ?_
 refine sk fun K6 hK6 => ?_
 refine dx ?_
 refine nB ?_
 simp only [pq]
 refine wn hK6 ?_
 refine aF ?_
 refine aH ?_
 refine hK2 _ _ ?_
 refine aE fun K7 hK7 => ?_
 refine sk fun K8 hK8 => ?_
 refine aC ?_
 refine gB ?_
 simp only [pq]
 refine wn hK8 ?_
 refine aF ?_
 refine aH ?_
 refine hK7 _ _ ?_
 refine sk fun K9 hK9 => ?_
 refine dx ?_
 refine aR S5 rfl (fn1 (KJ _ _)) (XH l.length _ _ _ l (S5).sat (hT.at S5.gr.below) hv ok.keys (by omega) ok.len (Nat.le_refl _) (fun p hp => (ok.ok p hp).2.2)) ?_
 intro a5 a6 a7 a1 a2 a0
 obtain ⟨a3, a4, rfl, _⟩ := a0.shape
 refine aC ?_
 refine wn hK9 ?_
 refine aP ?_
 try simp only [xt]
 refine bR (cC rfl (gD rfl) (gD rfl)) ?_
 exact ⟨_, _, rfl, a1.gr, _, rfl, a0⟩
theorem SJ (F : Fz) (w : World) (v : Value) (l : List Pr) (hs : Sat w F) (hT : Tabs w) (hv : Prs F v l) (ok : TreeOk 60 l) (hz : l.length = 0) :
    Calls Tryz.prog 100 #[v] w (dB w F (Bl (dU l) 0)) := by
 obtain ⟨a, c, rfl, hc1, hc2⟩ := Sl.shape hv
 unfold maxLen at hc2
 have S := St.start hs
 go_enter Tryz.func100, Tryz.ntmps100
 refine sk fun K1 hK1 => ?_
 iterate 2 refine dy ?_
 refine wn hK1 ?_
 refine aE fun K2 hK2 => ?_
 refine sk fun K3 hK3 => ?_
 refine dx ?_
 simp only [pq]
 refine aI (v := (iI 0)) S rfl (fn1 (vW _ _)) (rA _ _ _ l (S).sat hv ok) (fun w4 S5 => ?_)
 refine dy ?_
 refine wn hK3 ?_
 refine sk fun K6 hK6 => ?_
 refine dx ?_
 refine nB ?_
 simp only [pq]
 refine wn hK6 ?_
 refine aF ?_
 refine aH ?_
 refine hK2 _ _ ?_
 refine aE fun K7 hK7 => ?_
 refine sk fun K8 hK8 => ?_
 refine aC ?_
 refine iQ ?_
 simp only [pq]
 refine wn hK8 ?_
 refine aJ ?_
 refine sk fun K9 hK9 => ?_
 refine aR S5 rfl (fn2 (KI _ _)) (wE _ _ _ 0 [] (S5).sat (hT.at S5.gr.below) (Sl.nil 1 LsC _) (by simp)) ?_
 intro a6 a7 a8 a3 a4 a5
 obtain ⟨a9, rfl, a0⟩ := a5
 obtain ⟨a1, a2, rfl, _⟩ := a0.shape
 have a0 : Bs _ (.slice a1 (dU ([] : List Pr)).length a2) (dU ([] : List Pr)) := a0
 refine aC ?_
 refine wn hK9 ?_
 refine aP ?_
 try simp only [xt]
 refine bR (cC rfl (gD rfl) (gD rfl)) ?_
 exact ⟨_, _, rfl, a3.gr, _, rfl, SI a0 (by rw [List.eq_nil_of_length_eq_zero hz])⟩
theorem vA (F : Fz) (w : World) (v : Value) (l : List Pr) (hs : Sat w F) (hT : Tabs w) (hv : Prs F v l) (ok : TreeOk 60 l) :
    Calls Tryz.prog 100 #[v] w (dB w F (Bl (dU l) 0)) := by
 rcases Nat.eq_zero_or_pos l.length with h | h
 ·exact SJ F w v l hs hT hv ok h
 ·exact XI F w v l hs hT hv ok h
def Jz (F : Fz) (v : Value) (p : Prf) : Prop := ∃ a c ka kc va vc, v = .agg #[.bool p.empty, .slice a p.steps.length c, .slice ka p.pair.1.length kc, .slice va p.pair.2.length vc] ∧ Stps F (.slice a p.steps.length c) p.steps ∧ Bs F (.slice ka p.pair.1.length kc) p.pair.1 ∧ Bs F (.slice va p.pair.2.length vc) p.pair.2
def xZ (w : World) (F : Fz) (p : Prf) (e : Ending) (w' : World) : Prop := ∃ v ka kc va vc F', e = .returned (.tuple #[.agg #[.bool p.empty, v, .slice ka p.pair.1.length kc, .slice va p.pair.2.length vc], .int .i64 0]) ∧ Gr w F w' F' ∧ Own 3 StpC 204 w.heap.size w' F' v p.steps ∧ Bs F' (.slice ka p.pair.1.length kc) p.pair.1 ∧ Bs F' (.slice va p.pair.2.length vc) p.pair.2
theorem XJ (F : Fz) (w : World) (v : Value) (p : Pr) (hs : Sat w F) (hv : Pr2V F v p) (hk : p.1.length ≤ 100000) (hx : p.2.length ≤ 100000) :
    Calls Tryz.prog 125 #[v] w (dB w F fun F' u => Pr2V F' u p) := by
 obtain ⟨x0, y0, x1, y1, rfl, h0, h1⟩ := hv
 have S := St.start hs
 go_enter Tryz.func125, Tryz.ntmps125
 refine sk fun K1 hK1 => ?_
 refine bD S (v := fun n => .pointer (aA n 0)) rfl (cB (v := (.agg #[(.slice x0 p.1.length y0), (.slice x1 p.2.length y1)])) rfl) (fun n2 w3 S4 => ?_)
 refine sA S4 (uS _) fun n5 w6 S7 => ?_
 refine wn hK1 ?_
 refine aE fun K8 hK8 => ?_
 refine aT F 5 [(2, .made (fun F' u => Bs F' u p.1))] (by kernel_rfl) (by kernel_rfl) ?_
 simp only [dD]
 refine gf (nR _ _) ?_
 refine gl bI S7 1 ?_
 simp only [pq]
 refine dF rfl rfl (fun w9 C9 hF => bO (cK (vs := #[(.slice x0 p.1.length y0)]) (lG rfl) rfl (gN _ _)) (cS S7.sat C9 (cZ _ _ _ p.1 ((St.tells S7 C9)).sat h0 (by omega)))) (fun b6 => ?_)
 refine gf (xE _ _) ?_
 refine gl bI S7 1 ?_
 refine bY ?_
 intro b7 b2 a0
 obtain ⟨b3, a7, b4⟩ := a0.get 2 rfl rfl
 have a8 := St.gives S7 a7
 have a1 : Le _ _ := a7.le S7.sat
 have a9 := b4
 generalize b3 = b9 at *
 obtain ⟨a2, a3, rfl, _⟩ := a9.shape
 clear a0
 simp only [dE]
 refine aR a8 rfl (fn1 (gN _ _)) (cZ _ _ _ p.2 (a8).sat (h1.mono a1) (by omega)) ?_
 intro c0 c1 c2 b5 a4 b0
 obtain ⟨a5, a6, rfl, _⟩ := b0.shape
 simp only [pq]
 refine dr (.agg #[(.slice a2 p.1.length a3), (.slice a5 p.2.length a6)]) (aL (fY rfl rfl) (by kernel_rfl)) ?_
 refine sW 0 b5 (dL) fun c3 b1 => ?_
 refine wlK hK8 ?_
 refine aP ?_
 try simp only [xt]
 refine bR (qR rfl ⟨_, rfl, lR b1 0 Tryz.underlying50 (dL)⟩) ?_
 exact ⟨_, _, rfl, b1.gr, ⟨_, _, _, _, rfl, (a9.mono a4), b0⟩⟩
theorem EG (F : Fz) (w : World) (v : Value) (p : Pr) (b n : Nat) (hs : Sat w F) (hv : Pr2V F v p) (hb : bM F b 0 = some (.int .i64 (n : Nat))) (hn : n < 145) (hk : 1 ≤ p.1.length ∧ p.1.length ≤ 16) :
    Calls Tryz.prog 144 #[v, .pointer (some ⟨b, 0, none⟩)] w (cU w (.bool (cY p.1 n))) := by
 obtain ⟨x0, y0, x1, y1, rfl, h0, h1⟩ := hv
 have S := St.start hs
 go_enter Tryz.func144, Tryz.ntmps144
 refine sk fun K1 hK1 => ?_
 refine bD S (v := fun n => .pointer (aA n 0)) rfl (cB (v := (.agg #[(.slice x0 p.1.length y0), (.slice x1 p.2.length y1)])) rfl) (fun n2 w3 S4 => ?_)
 refine dy ?_
 refine wn hK1 ?_
 refine sk fun K5 hK5 => ?_
 refine aC ?_
 refine dr _ (aD rfl (aW (bN _) (St.fz S4 hb))) ?_
 simp only [pq]
 refine aI (v := (.tuple #[(.bool (cY p.1 n)), (iI 0)])) S4 rfl (cK (vs := #[(.slice x0 p.1.length y0), (nI n)]) (iD rfl rfl) rfl (KK _ _)) (eI (yK _ _ _ p.1 _ (S4).sat h0 hk.1 hk.2 (by omega) (by omega))) (fun w6 S7 => ?_)
 refine aC ?_
 refine wn hK5 ?_
 refine sk fun K8 hK8 => ?_
 refine aC ?_
 refine wn hK8 ?_
 refine aP ?_
 try simp only [xt]
 refine bR (bK rfl (gD rfl)) ?_
 exact ⟨rfl, S7.gr.below⟩
theorem EH (F : Fz) (w : World) (v : Value) (l : List Pr) (b : Nat) (hs : Sat w F) (hv : Prs F v l) (hb : bM F b 0 = some (.int .i64 (aX l : Nat))) (hk : KeysOk l) (h2 : 2 ≤ l.length) (c4 : l.length ≤ 60) :
    Calls Tryz.prog 143 #[v, .func (.func 144) #[] #[.pointer (some ⟨b, 0, none⟩)]] w (cU w (.int .i64 (bC (aX l) l : Nat))) := by
 obtain ⟨a, c, rfl, hc1, hc2⟩ := Sl.shape hv
 unfold maxLen at hc2
 have S := St.start hs
 go_enter Tryz.func143, Tryz.ntmps143
 refine sk fun K1 hK1 => ?_
 refine dy ?_
 refine wn hK1 ?_
 refine aE fun K2 hK2 => ?_
 refine sk fun K3 hK3 => ?_
 refine aC ?_
 refine wn hK3 ?_
 refine aM ?_
 refine bA (fun mm aa w5 => ∃ (k : Nat) (u4 : Nat → Value), mm = l.length - k ∧ u4 = dV aa ∧ aa = ⟨([(.slice a l.length c), (.func (.func 144) #[] #[(pP b 0)]), undef, undef, (u4 4), (u4 5), (.slice a l.length c), (nI l.length), (nI k)] ++ (usF u4 9 10 [])).toArray, []⟩ ∧ St w F w5 F [] [] ∧ (k ≤ l.length) ∧ (∀ (i : Nat) (h : i < l.length), i < k → cY l[i].1 (aX l) = false)) _ ⟨0, _, rfl, rfl, rfl, S, (by omega), (fun i _ h => by omega)⟩ ?_
 rintro m6 a7 w8 ⟨k, u4, rfl, -, hfr, S9, hkl, hlo⟩ c5 a6
 simp only [uzF, Nat.reduceAdd] at hfr; subst hfr
 refine sk fun c6 a1 => ?_
 by_cases hc9 : k < l.length
 refine eZ ?_
 refine wn a1 ?_
 refine aE fun c7 a8 => ?_
 refine aJ ?_
 refine aH ?_
 refine a8 _ _ ?_
 refine aE fun c8 a9 => ?_
 refine aM ?_
 refine sk fun c9 b0 => ?_
 refine aC ?_
 refine wn b0 ?_
 refine aE fun d0 b1 => ?_
 obtain ⟨p, hp⟩ : ∃ p, l[k]? = some p := ⟨l[k], List.getElem?_eq_getElem hc9⟩
 have hpp := hk.key p (List.mem_of_getElem? hp)
 obtain ⟨b6, b7, b2, a2, a3, a4, a5, b9, c0, c1, c2⟩ := Prs.get hv hp
 refine aB ?_
 refine aC ?_
 refine dr (pP b6 (b7 + k * 2)) (bP (i := k) (sz := 2) Tryz.underlying47 (bL _) rfl b2 rfl (by omega) rfl) ?_
 refine dr _ (aD rfl (cN Tryz.underlying50 rfl (dL) (kC (St.fz S9 b9) (St.fz S9 c0)))) ?_
 refine aI (v := (.bool (cY p.1 (aX l)))) S9 rfl (qQ (fs := #[]) (cs := #[(pP b 0)]) (vs := #[(.agg #[(.slice a2 p.1.length a3), (.slice a4 p.2.length a5)]), (pP b 0)]) rfl (yX (fs := #[]) (cs := #[(pP b 0)]) (xs := #[(.agg #[(.slice a2 p.1.length a3), (.slice a4 p.2.length a5)])]) (lG rfl) (by simp)) (Fx _ _)) (EG _ _ _ p b (aX l) (S9).sat ⟨_, _, _, _, rfl, c1, c2⟩ hb (nZ hk h2).1 hpp) (fun d1 b5 => ?_)
 refine wlK b1 ?_
 refine wp_cond_split rfl (fun a0 => ?_) (fun a0 => ?_)
 refine sk fun d2 b3 => ?_
 refine aC ?_
 refine wn b3 ?_
 refine aP ?_
 try simp only [xt]
 refine bR (bK rfl (gD rfl)) ?_
 obtain rfl : (bC (aX l) l) = k := nL (by omega) hlo (fun h => by obtain ⟨_, e⟩ := List.getElem?_eq_some_iff.1 hp; rw [e]; exact a0)
 exact ⟨rfl, b5.gr.below⟩
 refine aH ?_
 refine a9 _ _ ?_
 refine aB ?_
 refine cO (k + 1) ?_
 refine dx ?_
 refine aG ?_
 exact a6 _ _ _ (by omega) ⟨(k + 1), _, rfl, rfl, rfl, b5, (by omega), (PK hlo hp a0)⟩
 refine eT ?_
 simp only [pq]
 refine wn a1 ?_
 refine aE fun d3 c3 => ?_
 refine aF ?_
 refine cV ?_
 refine hK2 _ _ ?_
 refine sk fun d4 b4 => ?_
 refine dy ?_
 refine wn b4 ?_
 refine aP ?_
 try simp only [xt]
 refine bR (bK rfl (gD rfl)) ?_
 have := nL (n := k) (by omega) hlo (fun h => by omega)
 have := (oF hk h2).2
 omega
theorem LN {P : Program} {ρ : Operand → Value} {w : World} {d : Option Tmp} {t : TypeId} {pos : String} {after : Array Edge} {guard : Option (Nat × Bool)} {k : FuncId} {x : Operand} {v : Value} (hx : ρ x = v) : (execOp ρ ⟨d, .makeFunc (.func k) #[] #[x], t, pos, after, guard⟩).run P w = .ok (.value (.func (.func k) #[] #[v])) w := by
 subst hx
 simp [execOp, Instr.makeFunc]
theorem LO (F : Fz) (w : World) (a : Option Addr) (c : Nat) (l : List Pr) (hs : Sat w F) (hv : Prs F (.slice a l.length c) l) (hk : KeysOk l) (h2 : 2 ≤ l.length) (b7 : l.length ≤ 60) :
    Calls Tryz.prog 123 #[.slice a l.length c] w (cU w (.tuple #[.int .i64 (aX l : Nat), .slice a (bC (aX l) l) c, .slice (if c = (bC (aX l) l) then a else a.map (·.add ((bC (aX l) l) * 2))) (l.length - (bC (aX l) l)) (c - (bC (aX l) l))])) := by
 obtain ⟨_, _, e0, hc1, hc2⟩ := Sl.shape hv
 unfold maxLen at hc2
 injection e0 with _ _ e0
 subst e0
 have S := St.start hs
 go_enter Tryz.func123, Tryz.ntmps123
 refine sk fun K1 hK1 => ?_
 refine sA S (Hv _) fun n2 w3 S4 => ?_
 refine aC ?_
 refine wn hK1 ?_
 refine aE fun K5 hK5 => ?_
 obtain ⟨p0, hp0⟩ : ∃ p, l[0]? = some p := ⟨l[0], List.getElem?_eq_getElem (by omega)⟩
 obtain ⟨p1, hp1⟩ : ∃ p, l[l.length - 1]? = some p := ⟨l[l.length - 1], List.getElem?_eq_getElem (by omega)⟩
 have hq0 := hk.key p0 (List.mem_of_getElem? hp0)
 have hq1 := hk.key p1 (List.mem_of_getElem? hp1)
 obtain ⟨hb1, hpb, _, _⟩ := nZ hk h2
 rw [(List.getElem?_eq_some_iff.1 hp0).2, (List.getElem?_eq_some_iff.1 hp1).2] at hpb
 have hnl := CL (aX l) l
 obtain ⟨b6, o7, ha8, a3, a4, b9, c0, c9, d0, c1, d1⟩ := Prs.get hv hp0
 obtain ⟨d2, d3, a8, a5, a6, c2, c3, c4, d4, c5, d5⟩ := Prs.get hv hp1
 have hq_ := ha8.symm.trans a8; injection hq_ with hq_; injection hq_ with hq1_ hq2_; subst hq1_; subst hq2_
 refine kX F [0, 1, 2, 3, 4, 5, 6, 7, 8, 9, 10, 11, 12, 13] 14 15 [] [(11, .is (.tuple #[(nI (aX l)), (iI 0)])), (14, .is (iI 0))] (by kernel_rfl) (by kernel_rfl) rfl rfl rfl rfl ?_
 simp only [jH, List.getElem?_cons_succ, List.getElem?_cons_zero, List.map_cons, List.map_nil]
 refine bQ rfl rfl (.slice a l.length c) (fun a1 a0 => aK (fF _)) ?_
 simp only [pq]
 refine bQ rfl rfl (pP b6 (o7 + 0 * 2)) (fun a1 a0 => aK (bP (i := 0) (sz := 2) Tryz.underlying47 (bL _) rfl ha8 rfl (by omega) rfl)) ?_
 simp only [pq]
 refine bQ rfl rfl (pP b6 (o7 + 0 * 2)) (fun a1 a0 => aK (ef (nR _ _))) ?_
 simp only [pq]
 refine bQ rfl rfl (.slice a3 p0.1.length a4) (fun a1 a0 => aK (aD rfl (aW (bI _) (St.fz (St.tells S4 a0) c9)))) ?_
 simp only [pq]
 refine bQ rfl rfl (.slice a l.length c) (fun a1 a0 => aK (fF _)) ?_
 simp only [pq]
 refine bQ rfl rfl (.slice a l.length c) (fun a1 a0 => aK (fF _)) ?_
 simp only [pq]
 refine bQ rfl rfl (nI l.length) (fun a1 a0 => aK (pW Tryz.underlying47 rfl)) ?_
 simp only [pq]
 refine bQ rfl rfl (nI (l.length - 1)) (fun a1 a0 => aK (tL (m := ((l.length : Nat) : Int)) (n := (1 : Int)) (r := (((l.length - 1) : Nat) : Int)) rfl rfl (by omega) (by omega) (by omega))) ?_
 simp only [pq]
 refine bQ rfl rfl (pP b6 (o7 + (l.length - 1) * 2)) (fun a1 a0 => aK (bP (i := (l.length - 1)) (sz := 2) Tryz.underlying47 (bL _) rfl ha8 rfl (by omega) rfl)) ?_
 simp only [pq]
 refine bQ rfl rfl (pP b6 (o7 + (l.length - 1) * 2)) (fun a1 a0 => aK (ef (nR _ _))) ?_
 simp only [pq]
 refine bQ rfl rfl (.slice a5 p1.1.length a6) (fun a1 a0 => aK (aD rfl (aW (bI _) (St.fz (St.tells S4 a0) c4)))) ?_
 simp only [pq]
 refine Aj rfl rfl (v := (.tuple #[(nI (aX l)), (iI 0)])) (fun a1 a0 _ => bO (cK (vs := #[(.slice a3 p0.1.length a4), (.slice a5 p1.1.length a6)]) (iD rfl rfl) rfl (UJ _ _)) (iB (eI (UZ ((St.tells S4 a0)).sat c1 c5 hpb hq0 hq1)))) ?_
 simp only [pq]
 refine bQ rfl rfl (.tuple #[(nI (aX l)), (iI 0)]) (fun a1 a0 => aK (fF _)) ?_
 simp only [pq]
 refine bQ rfl rfl (nI (aX l)) (fun a1 a0 => aK (bV rfl rfl)) ?_
 simp only [pq]
 refine zD (IK rfl rfl (v := (iI 0)) (fun a1 a0 hF_ => ?_) ?_)
 exact fun w1 => aK (bV rfl rfl)
 intro d6 a9 b0
 clear b0
 have c6 := St.tells S4 a9
 refine zF (i := 0) (v := (nI (aX l))) c6 rfl rfl rfl (rX) (lS rfl) (Nat.le_of_ble_eq_true rfl) (fun d7 b5 => ?_)
 refine wlK hK5 ?_
 refine sk fun d8 b1 => ?_
 refine dx ?_
 refine dr (.func (.func 144) #[] #[(pP n2 0)]) (LN rfl) ?_
 simp only [pq]
 obtain ⟨c7, b2, b3⟩ := St.freezeBlk b5 (i := 0) rfl
 refine aI (v := (nI (bC (aX l) l))) b5 rfl (fn2 (Fw _ _)) (EH _ _ _ l _ (c7).sat (hv.mono b2) (b3 0 _ rfl) hk h2 b7) (fun d9 c8 => ?_)
 refine dy ?_
 refine wn b1 ?_
 refine aE fun e1 b4 => ?_
 refine jY c8 (by kernel_rfl) (fun e2 a2 => ?_)
 refine gT 1 rfl a2.sat ?_
 simp only [pq]
 refine gT 2 rfl a2.sat ?_
 simp only [pq]
 refine dJ 3 rfl (.slice a (bC (aX l) l) c) a2.sat (fun _ _ => bJ (l := 0) (h := (bC (aX l) l)) (sz := 2) Tryz.underlying47 rfl (bL _) (.inl ⟨rfl, rfl⟩) (.inr ⟨_, rfl, rfl⟩) (by omega) (by omega) (gL)) ?_
 simp only [pq]
 refine gT 4 rfl a2.sat ?_
 simp only [pq]
 refine gT 5 rfl a2.sat ?_
 simp only [pq]
 refine dJ 6 rfl (.slice (if c = (bC (aX l) l) then a else a.map (·.add ((bC (aX l) l) * 2))) (l.length - (bC (aX l) l)) (c - (bC (aX l) l))) a2.sat (fun _ _ => bJ (l := (bC (aX l) l)) (h := l.length) (sz := 2) Tryz.underlying47 rfl (bL _) (.inr ⟨_, rfl, rfl⟩) (.inl ⟨rfl, rfl⟩) (by omega) (by omega) (rfl)) ?_
 simp only [pq]
 refine eB 0 (by kernel_rfl) rfl ?_
 refine dl (bN _) a2 0 ?_
 refine aG (cW a2.sat ?_)
 refine eB 7 (by kernel_rfl) rfl ?_
 refine sW 0 a2 (rX) fun e3 a7 => ?_
 refine aG (cW a7.sat ?_)
 refine kI 8 rfl a7.sat ?_
 simp only [pq]
 refine kI 9 rfl a7.sat ?_
 simp only [pq]
 refine kA (by kernel_rfl) ?_
 refine b4 _ _ ?_
 refine aP ?_
 try simp only [xt]
 refine bR (JQ rfl ⟨_, rfl, aW (bN _) (sc a7 0)⟩ (gD rfl) (gD rfl)) ?_
 exact ⟨rfl, a7.gr.below⟩
theorem LP {n : Nat} {l m : List Pr} (h : TreeOk n l) (hs : m.Sublist l) : TreeOk n m := ⟨Nat.le_trans hs.length_le h.len, fun p hp => h.ok p (hs.subset hp), h.rise.sublist hs⟩
theorem GL (F : Fz) (w : World) (a : Option Addr) (c : Nat) (l : List Pr) (hs : Sat w F) (hv : Prs F (.slice a l.length c) l) (hk : KeysOk l) (h2 : 2 ≤ l.length) (a0 : l.length ≤ 60) :
    Calls Tryz.prog 123 #[.slice a l.length c] w (cU w (.tuple #[.int .i64 (aX l : Nat), .slice a (l.take (bC (aX l) l)).length c, .slice (if c = (bC (aX l) l) then a else a.map (·.add ((bC (aX l) l) * 2))) (l.drop (bC (aX l) l)).length (c - (bC (aX l) l))])) := by
 have := LO F w a c l hs hv hk h2 a0
 have hn := CL (aX l) l
 rw [List.length_take, Nat.min_eq_left hn, List.length_drop]
 exact this
theorem EI {n : Nat} {cur : List Pr} {k : By} {ss : List Stp} {R : List Stp × Pr} (h : (ss ++ (kP (n + 1) cur k).1, (kP (n + 1) cur k).2) = R) (h2 : 2 ≤ cur.length) (b : Bool) (hb : cY k (aX cur) = b) :
    ((ss ++ [(⟨aX cur, cY k (aX cur), dU (qO (aX cur) (!b) cur)⟩ : Stp)]) ++ (kP n (qO (aX cur) b cur) k).1, (kP n (qO (aX cur) b cur) k).2) = R := by
 rw [← h]
 unfold kP
 rw [if_neg (by omega), hb]
 simp only [List.append_assoc, List.cons_append, List.nil_append]
 cases n <;> rfl
theorem XK {n : Nat} {cur : List Pr} {k : By} {ss : List Stp} {R : List Stp × Pr} {p : Pr} (h : (ss ++ (kP n cur k).1, (kP n cur k).2) = R) (h1 : cur.length ≤ 1) (hp : cur[0]? = some p) : R = (ss, p) := by
 rw [← h]
 match cur, hp with
 | q :: l, hp =>
  simp only [List.getElem?_cons_zero, Option.some.injEq] at hp
  subst hp
  cases n with
  | zero => simp [kP]
  | succ n => unfold kP; rw [if_pos h1]; simp
theorem GM (F : Fz) (w : World) (v u : Value) (l : List Pr) (k : By) (hs : Sat w F) (hT : Tabs w) (hv : Prs F v l) (hu : Bs F u k) (ok : TreeOk 60 l) (hk : 1 ≤ k.length ∧ k.length ≤ 16) (hz : l.length = 0) :
    Calls Tryz.prog 102 #[v, u] w (xZ w F (aV l k)) := by
 obtain ⟨a, c, rfl, hc1, hc2⟩ := Sl.shape hv
 obtain ⟨ka, kc, rfl, hk1, hk2⟩ := hu.shape
 unfold maxLen at hc2 hk2
 have S := St.start hs
 have b4 := ok.len
 obtain ⟨a8, a3, a4, a5, a6⟩ := info_parts OC
 go_enter Tryz.func102, Tryz.ntmps102
 refine sk fun K1 hK1 => ?_
 refine sA S (sC _) fun n2 w3 S4 => ?_
 refine dy ?_
 refine wn hK1 ?_
 refine aE fun K5 hK5 => ?_
 refine sk fun K6 hK6 => ?_
 refine aC ?_
 refine aR S4 rfl (fn2 (RI _ _)) (DM _ _ _ _ l k (S4).sat hv hu ok hk.1 hk.2) ?_
 intro b5 w7 F9 S8 a9 b0
 obtain ⟨_, rfl, b6, b7, rfl, b9⟩ := b0
 refine aC ?_
 refine sA S8 (kL _) fun c0 c1 b1 => ?_
 refine sW 0 b1 (fT) fun c2 b2 => ?_
 refine dy ?_
 simp only [pq]
 refine wn hK6 ?_
 refine sk fun c3 a0 => ?_
 refine dx ?_
 refine nB ?_
 refine wn a0 ?_
 refine aF ?_
 refine aH ?_
 refine hK5 _ _ ?_
 refine aE fun c4 b3 => ?_
 refine sk fun c5 a1 => ?_
 refine aC ?_
 refine iQ ?_
 simp only [pq]
 refine wn a1 ?_
 refine aJ ?_
 refine sk fun c6 a2 => ?_
 refine dr (.agg #[bT, Zn, Zn, Zn]) (aL (cH rfl) (by kernel_rfl)) ?_
 refine sW 1 b2 (eG) fun c7 a7 => ?_
 refine dy ?_
 simp only [pq]
 refine wn a2 ?_
 refine aP ?_
 try simp only [xt]
 refine bR (dN rfl ⟨_, rfl, lR a7 1 Tryz.underlying52 (eG)⟩ (gD rfl)) ?_
 have hn : l = [] := List.eq_nil_of_length_eq_zero hz
 have hp : aV l k = ⟨true, [], ([], [])⟩ := by rw [hn]; rfl
 rw [hp]
 exact ⟨_, _, _, _, _, _, rfl, a7.gr, Own.nil _ _, Bs.nil _, Bs.nil _⟩
theorem LQ (F : Fz) (w : World) (v u : Value) (l : List Pr) (k : By) (hs : Sat w F) (hT : Tabs w) (hv : Prs F v l) (hu : Bs F u k) (ok : TreeOk 60 l) (hk : 1 ≤ k.length ∧ k.length ≤ 16) (hz : 1 ≤ l.length) :
    Calls Tryz.prog 102 #[v, u] w (xZ w F (aV l k)) := by
 obtain ⟨a, c, rfl, hc1, hc2⟩ := Sl.shape hv
 obtain ⟨ka, kc, rfl, hk1, hk2⟩ := hu.shape
 unfold maxLen at hc2 hk2
 have S := St.start hs
 have l6 := ok.len
 obtain ⟨b7, a5, a6, a7, a8⟩ := info_parts OC
 go_enter Tryz.func102, Tryz.ntmps102
 refine sk fun K1 hK1 => ?_
 refine sA S (sC _) fun n2 w3 S4 => ?_
 refine dy ?_
 refine wn hK1 ?_
 refine aE fun K5 hK5 => ?_
 refine sk fun K6 hK6 => ?_
 refine aC ?_
 refine aR S4 rfl (fn2 (RI _ _)) (DM _ _ _ _ l k (S4).sat hv hu ok hk.1 hk.2) ?_
 intro l7 w7 F9 S8 b9 i3
 obtain ⟨_, rfl, d3, d4, rfl, l8⟩ := i3
 refine aC ?_
 refine sA S8 (kL _) fun g6 l9 i4 => ?_
 refine sW 0 i4 (fT) fun m0 i5 => ?_
 refine dy ?_
 simp only [pq]
 refine wn hK6 ?_
 refine sk fun m1 d7 => ?_
 refine dx ?_
 refine nB ?_
 refine wn d7 ?_
 refine aF ?_
 refine aH ?_
 refine hK5 _ _ ?_
 refine aE fun m2 d8 => ?_
 refine sk fun m3 d9 => ?_
 refine aC ?_
 refine gB ?_
 simp only [pq]
 refine wn d9 ?_
 refine aF ?_
 refine aH ?_
 refine d8 _ _ ?_
 refine sk fun m4 e0 => ?_
 refine sA i5 (sC _) fun g7 m5 i6 => ?_
 refine wn e0 ?_
 refine aE fun m6 e1 => ?_
 refine aM ?_
 have i7 := St.addNil i6 3 StpC StpC.mono 204 w.heap.size
 refine bA (fun mm aa i8 => ∃ (n : Nat) (cur : List Pr) (xa : Option Addr) (xc : Nat) (sv : Value) (ss : List Stp) (b5 : Fz) (d5 : Nat → Value), mm = cur.length ∧ d5 = dV aa ∧ aa = ⟨([(.slice xa cur.length xc), (.slice ka k.length kc), undef, undef, (pP n2 0), (iI 0), (pP g6 0), (iI 0), (pP g7 0)] ++ (usF d5 9 4 ([(.tuple #[(.agg #[(.bool (gH l k).isSome), (.slice d3 ((gH l k).getD []).length d4)]), (iI 0)]), (.slice a l.length c), (.slice ka k.length kc), (.tuple #[(.agg #[(.bool (gH l k).isSome), (.slice d3 ((gH l k).getD []).length d4)]), (iI 0)]), (.agg #[(.bool (gH l k).isSome), (.slice d3 ((gH l k).getD []).length d4)]), (iI 0), (iI 0), bF, undef, undef, (.slice a l.length c), (nI l.length), bF, undef] ++ (usF d5 27 35 (udF 6 []))))).toArray, []⟩ ∧ St w F i8 b5 [⟨g7, [bF, sv, Zn, Zn], 52⟩, ⟨g6, [(.bool (gH l k).isSome), (.slice d3 ((gH l k).getD []).length d4)], 72⟩, ⟨n2, [bF, Zn, Zn, Zn], 52⟩] [bZ 3 StpC StpC.mono 204 w.heap.size sv ss] ∧ Le F9 b5 ∧ (Prs b5 (.slice xa cur.length xc) cur) ∧ (TreeOk 60 cur) ∧ (1 ≤ cur.length) ∧ (cur.length ≤ n + 1) ∧ ((ss ++ (kP n cur k).1, (kP n cur k).2) = kP l.length l k) ∧ (ss.length + cur.length ≤ l.length)) _ ⟨l.length, l, a, c, Zn, [], F9, _, rfl, rfl, rfl, i7, Le.refl _, (hv.mono b9), ok, (by omega), (by omega), rfl, (by simp)⟩ ?_
 rintro m7 m8 m9 ⟨n, cur, xa, xc, sv, ss, b5, d5, rfl, -, hfr, a9, b0, hcur, okc, hc1_, hfu, hst, hsl⟩ n0 c0
 simp only [uzF, Nat.reduceAdd] at hfr; subst hfr
 refine aE fun n1 e2 => ?_
 refine sk fun n3 c1 => ?_
 refine aC ?_
 by_cases i9 : 1 < cur.length
 refine sX ?_
 refine wn c1 ?_
 refine aJ ?_
 refine aH ?_
 refine e2 _ _ ?_
 refine aM ?_
 refine aE fun n4 e3 => ?_
 have hn2 := oF okc.keys (show 2 ≤ cur.length by omega)
 have g8 := (nZ okc.keys (show 2 ≤ cur.length by omega)).1
 have hlt1 : (cur.take (bC (aX cur) cur)).length = (bC (aX cur) cur) := by rw [List.length_take]; omega
 have hlt2 : (cur.drop (bC (aX cur) cur)).length = cur.length - (bC (aX cur) cur) := List.length_drop
 obtain ⟨n', rfl⟩ : ∃ m, n = m + 1 := ⟨n - 1, by omega⟩
 have h60c := okc.len
 refine aB ?_
 refine dx ?_
 simp only [pq]
 have hcl : Prs b5 (.slice xa (cur.take (bC (aX cur) cur)).length xc) (cur.take (bC (aX cur) cur)) := by rw [hlt1]; exact Sl.takeN hcur (by omega)
 have hcr : Prs b5 (.slice (if xc = (bC (aX cur) cur) then xa else xa.map (·.add ((bC (aX cur) cur) * 2))) (cur.drop (bC (aX cur) cur)).length (xc - (bC (aX cur) cur))) (cur.drop (bC (aX cur) cur)) := by rw [hlt2]; exact Sl.dropD (by decide) hcur (by omega)
 refine aI (v := (.tuple #[(nI (aX cur)), (.slice xa (cur.take (bC (aX cur) cur)).length xc), (.slice (if xc = (bC (aX cur) cur) then xa else xa.map (·.add ((bC (aX cur) cur) * 2))) (cur.drop (bC (aX cur) cur)).length (xc - (bC (aX cur) cur)))])) a9 rfl (fn1 (Fg _ _)) (GL _ _ _ _ cur (a9).sat hcur okc.keys (by omega) (by omega)) (fun n5 j0 => ?_)
 refine aC ?_
 refine wlK e3 ?_
 refine sk fun n6 e4 => ?_
 refine dx ?_
 refine dr (.agg #[(nI (aX cur)), bF, Zn]) (aL (cH rfl) (by kernel_rfl)) ?_
 simp only [pq]
 refine sA j0 (ZN _) fun n7 n8 j1 => ?_
 refine sW 0 j1 (DE) fun n9 g9 => ?_
 refine wn e4 ?_
 refine sk fun o0 e5 => ?_
 refine aC ?_
 refine aI (v := (.tuple #[(.bool (cY k (aX cur))), (iI 0)])) g9 rfl (cK (vs := #[(.slice ka k.length kc), (nI (aX cur))]) (iD rfl rfl) rfl (KK _ _)) (eI (yK _ _ _ k _ (g9).sat (hu.mono (b9.trans b0)) hk.1 hk.2 (by omega) (by omega))) (fun o1 j2 => ?_)
 refine aC ?_
 refine sW 0 j2 (JT) fun o2 b6 => ?_
 refine wn e5 ?_
 refine aE fun o3 c2 => ?_
 refine sk fun o4 e6 => ?_
 refine aC ?_
 refine wn e6 ?_
 refine wp_cond_split rfl (fun b1 => ?_) (fun b1 => ?_)
 have hb : cY k (aX cur) = true := b1
 refine aB ?_
 refine aC ?_
 refine wlK c2 ?_
 refine sk fun o5 e7 => ?_
 refine dx ?_
 refine aR b6 rfl (fn1 (BG _ _)) (vA _ _ _ (cur.take (bC (aX cur) cur)) (b6).sat (hT.at b6.gr.below) hcl (LP okc (List.take_sublist _ _))) ?_
 intro o6 o7 j3 j4 c3 j5
 obtain ⟨o8, rfl, c4⟩ := j5
 obtain ⟨a0, a1, rfl, _⟩ := c4.shape
 have c4 : Bs _ (.slice a0 (dU (cur.take (bC (aX cur) cur))).length a1) (dU (cur.take (bC (aX cur) cur))) := c4
 refine aC ?_
 refine sW 0 j4 (mH) fun o9 h0 => ?_
 refine wn e7 ?_
 refine sk fun p0 e8 => ?_
 refine aC ?_
 refine wn e8 ?_
 refine aB ?_
 refine aC ?_
 refine dR h0 0 Tryz.underlying204 (DE) ?_
 simp only [pq]
 refine bD h0 (v := fun n => .slice (aA n 0) 1 1) rfl (bS (ps := #[(0, (.agg #[(nI (aX cur)), (.bool (cY k (aX cur))), (.slice a0 (dU (cur.take (bC (aX cur) cur))).length a1)]))]) (cells := #[(nI (aX cur)), (.bool (cY k (aX cur))), (.slice a0 (dU (cur.take (bC (aX cur) cur))).length a1)]) (E := 204) (cH rfl) (fun w => by kernel_rfl)) (fun p1 p2 h1 => ?_)
 refine eN (i := 0) (r := 0) (p := (⟨aX cur, cY k (aX cur), dU (qO (aX cur) (!true) cur)⟩ : Stp)) (cs := [(nI (aX cur)), (.bool (cY k (aX cur))), (.slice a0 (dU (cur.take (bC (aX cur) cur))).length a1)]) h1 rfl b7 (.agg #[(iI 0), bF, Zn]) 40 Tryz.underlying48 a5 a6 a7 a8 rfl (by decide) rfl rfl rfl rfl rfl (StpC.oneCell (p := (⟨aX cur, cY k (aX cur), dU (qO (aX cur) (!true) cur)⟩ : Stp)) ⟨_, _, _, rfl, rfl, rfl, c4⟩) (⟨_, _, _, rfl, rfl, rfl, c4⟩) (Nat.le_refl _) h1.gr.below.size (by unfold maxLen; omega) (by omega) ?_
 intro p3 p4 d6 j6
 simp only [pq]
 have d6 := St.drop d6 (.cons _ (List.Sublist.refl _))
 obtain ⟨j7, c5, rfl, p5, j8⟩ := (d6.own (i := 0) rfl).shape
 unfold maxLen at j8
 refine df (KE _ _) ?_
 refine sW 1 d6 (TQ) fun p6 e9 => ?_
 refine aG ?_
 have e9 := St.drop e9 (.cons _ (List.Sublist.refl _))
 exact c0 _ _ _ (by omega) ⟨n', (cur.drop (bC (aX cur) cur)), (if xc = (bC (aX cur) cur) then xa else xa.map (·.add ((bC (aX cur) cur) * 2))), (xc - (bC (aX cur) cur)), (.slice j7 (ss ++ [(⟨aX cur, cY k (aX cur), dU (qO (aX cur) (!true) cur)⟩ : Stp)]).length c5), (ss ++ [(⟨aX cur, cY k (aX cur), dU (qO (aX cur) (!true) cur)⟩ : Stp)]), j3, _, rfl, rfl, rfl, e9, (b0.trans c3), (hcr.mono c3), (LP okc (List.drop_sublist _ _)), (by rw [List.length_drop]; omega), (by rw [List.length_drop]; omega), (EI hst (by omega) true hb), (by rw [List.length_append, List.length_drop]; simp only [List.length_cons, List.length_nil]; omega)⟩
 refine aH ?_
 refine c2 _ _ ?_
 refine aE fun p7 f0 => ?_
 have hb : cY k (aX cur) = false := b1
 refine aB ?_
 refine dx ?_
 simp only [pq]
 refine aR b6 rfl (cK (vs := #[(.slice (if xc = (bC (aX cur) cur) then xa else xa.map (·.add ((bC (aX cur) cur) * 2))) (cur.drop (bC (aX cur) cur)).length (xc - (bC (aX cur) cur)))]) (lG rfl) rfl (BG _ _)) (vA _ _ _ (cur.drop (bC (aX cur) cur)) (b6).sat (hT.at b6.gr.below) hcr (LP okc (List.drop_sublist _ _))) ?_
 intro p8 p9 j9 k0 c6 k1
 obtain ⟨q0, rfl, c7⟩ := k1
 obtain ⟨a2, a3, rfl, _⟩ := c7.shape
 have c7 : Bs _ (.slice a2 (dU (cur.drop (bC (aX cur) cur))).length a3) (dU (cur.drop (bC (aX cur) cur))) := c7
 refine aC ?_
 refine sW 0 k0 (mH) fun q1 h2 => ?_
 refine wlK f0 ?_
 refine sk fun q2 f1 => ?_
 refine aC ?_
 refine wn f1 ?_
 refine aB ?_
 refine aC ?_
 refine dR h2 0 Tryz.underlying204 (DE) ?_
 simp only [pq]
 refine bD h2 (v := fun n => .slice (aA n 0) 1 1) rfl (bS (ps := #[(0, (.agg #[(nI (aX cur)), (.bool (cY k (aX cur))), (.slice a2 (dU (cur.drop (bC (aX cur) cur))).length a3)]))]) (cells := #[(nI (aX cur)), (.bool (cY k (aX cur))), (.slice a2 (dU (cur.drop (bC (aX cur) cur))).length a3)]) (E := 204) (cH rfl) (fun w => by kernel_rfl)) (fun q3 k2 c8 => ?_)
 refine eN (i := 0) (r := 0) (p := (⟨aX cur, cY k (aX cur), dU (qO (aX cur) (!false) cur)⟩ : Stp)) (cs := [(nI (aX cur)), (.bool (cY k (aX cur))), (.slice a2 (dU (cur.drop (bC (aX cur) cur))).length a3)]) c8 rfl b7 (.agg #[(iI 0), bF, Zn]) 40 Tryz.underlying48 a5 a6 a7 a8 rfl (by decide) rfl rfl rfl rfl rfl (StpC.oneCell (p := (⟨aX cur, cY k (aX cur), dU (qO (aX cur) (!false) cur)⟩ : Stp)) ⟨_, _, _, rfl, rfl, rfl, c7⟩) (⟨_, _, _, rfl, rfl, rfl, c7⟩) (Nat.le_refl _) c8.gr.below.size (by unfold maxLen; omega) (by omega) ?_
 intro k3 k4 a4 h3
 simp only [pq]
 have a4 := St.drop a4 (.cons _ (List.Sublist.refl _))
 obtain ⟨f2, b2, rfl, k5, f3⟩ := (a4.own (i := 0) rfl).shape
 unfold maxLen at f3
 refine df (KE _ _) ?_
 refine sW 1 a4 (TQ) fun k6 b3 => ?_
 refine aG ?_
 have b3 := St.drop b3 (.cons _ (List.Sublist.refl _))
 exact c0 _ _ _ (by omega) ⟨n', (cur.take (bC (aX cur) cur)), xa, xc, (.slice f2 (ss ++ [(⟨aX cur, cY k (aX cur), dU (qO (aX cur) (!false) cur)⟩ : Stp)]).length b2), (ss ++ [(⟨aX cur, cY k (aX cur), dU (qO (aX cur) (!false) cur)⟩ : Stp)]), j9, _, rfl, rfl, rfl, b3, (b0.trans c6), (hcl.mono c6), (LP okc (List.take_sublist _ _)), (by rw [List.length_take]; omega), (by rw [List.length_take]; omega), (EI hst (by omega) false hb), (by rw [List.length_append, List.length_take]; simp only [List.length_cons, List.length_nil]; omega)⟩
 refine mO ?_
 simp only [pq]
 refine wn c1 ?_
 refine aF ?_
 refine cV ?_
 refine e1 _ _ ?_
 refine aE fun k7 c9 => ?_
 obtain ⟨k8, f4, rfl, k9, f5⟩ := (a9.own (i := 0) rfl).shape
 unfold maxLen at f5
 obtain ⟨p, hp⟩ : ∃ p, cur[0]? = some p := ⟨cur[0], List.getElem?_eq_getElem (by omega)⟩
 have hpo := okc.ok p (List.mem_of_getElem? hp)
 have hp1 := hpo.2.1
 have hp2 := hpo.2.2
 have hend := XK hst (by omega) hp
 obtain ⟨f6, f7, d0, h4, h5, h6, h7, f8, f9, g0, g1⟩ := Prs.get hcur hp
 refine aB ?_
 refine dx ?_
 refine dr (pP f6 (f7 + 0 * 2)) (bP (i := 0) (sz := 2) Tryz.underlying47 (bL _) rfl d0 rfl (by omega) rfl) ?_
 refine dr _ (aD rfl (cN Tryz.underlying50 rfl (dL) (kC (St.fz a9 f8) (St.fz a9 f9)))) ?_
 simp only [pq]
 refine aR a9 rfl (fn1 (Fh _ _)) (XJ _ _ _ p (a9).sat ⟨_, _, _, _, rfl, g0, g1⟩ (by omega) (by omega)) ?_
 intro l0 l1 l2 g2 h8 g3
 obtain ⟨h9, i0, i1, i2, rfl, g4, g5⟩ := g3
 refine df (TT _ _) ?_
 refine sW 0 g2 (dL) fun l3 d1 => ?_
 refine wlK c9 ?_
 refine sk fun l4 d2 => ?_
 refine dR d1 0 Tryz.underlying52 (eG) ?_
 simp only [pq]
 refine sW 2 d1 (eG) fun l5 b4 => ?_
 refine dy ?_
 refine wn d2 ?_
 refine aP ?_
 try simp only [xt]
 refine bR (dN rfl ⟨_, rfl, lR b4 2 Tryz.underlying52 (eG)⟩ (gD rfl)) ?_
 have hpv : aV l k = ⟨false, ss, p⟩ := by unfold aV; rw [if_neg (fun e => by rw [e] at hz; simp at hz), hend]
 rw [hpv]
 exact ⟨_, _, _, _, _, _, rfl, b4.gr, St.own (i := 0) b4 rfl, g4, g5⟩
theorem EJ (F : Fz) (w : World) (v u : Value) (l : List Pr) (k : By) (hs : Sat w F) (hT : Tabs w) (hv : Prs F v l) (hu : Bs F u k) (ok : TreeOk 60 l) (hk : 1 ≤ k.length ∧ k.length ≤ 16) :
    Calls Tryz.prog 102 #[v, u] w (xZ w F (aV l k)) := by
 rcases Nat.eq_zero_or_pos l.length with h | h
 ·exact GM F w v u l k hs hT hv hu ok hk h
 ·exact LQ F w v u l k hs hT hv hu ok hk h
section
variable {P : Program} {ops : Array Oper} {Q : Exit → Act → World → Prop} {a : Act} {w w' : World} {rest : List Oper} {o : Oper} {n : Nat}
end
def KeepC (b : Nat) (W W' : World) : Prop := ∀ k o, k ≠ b → W.heap[k]? = some o → o.isCells = true → W'.heap[k]? = some o
theorem KeepC.trans {b : Nat} {X Y Z : World} (h : KeepC b X Y) (k : KeepC b Y Z) : KeepC b X Z := fun j o hj ho hc => k j o hj (h j o hj ho hc) hc
theorem KeepC.put {b : Nat} {B : Nat} (W : World) (l : Nat) (o o' : Obj) (_ : B ≤ l) (h : W.heap[l]? = some o) (hc : o.isCells = false) (_ : o.isWalk = false) : KeepC b W (W.putObj l o') := fun k x _ hk hx => by
  rw [World.putObj_heap_other (fun e => by rw [e, h] at hk; cases hk; rw [hc] at hx; cases hx)]
  exact hk
def SatC (F : Fz) (W : World) : Prop := ∀ b c t fr, F b = some (.cells c t fr) → W.heap[b]? = some (.cells c t fr)
theorem SatC.cell {F : Fz} {W : World} (h : SatC F W) {b o : Nat} {v : Value} (hc : bM F b o = some v) : W.cell? ⟨b, o, none⟩ = some v := by
 unfold bM at hc
 split at hc
 ·rename_i c t fr hb
  simp [World.cell?, h b _ _ _ hb, hc]
 ·cases hc
theorem SatC.keep {F : Fz} {W W' : World} {b : Nat} (h : SatC F W) (hF : F b = none) (hk : KeepC b W W') : SatC F W' := fun k c t fr hb => hk k _ (fun e => by rw [e, hF] at hb; cases hb) (h k c t fr hb) rfl
theorem Sat.c {F : Fz} {W : World} (h : Sat W F) : SatC F W := fun b c t fr hb => h b _ hb
theorem SatC.below {F : Fz} {w W : World} (h : SatC F w) (hW : Below w.heap.size w W) : SatC F W := fun b c t fr hb => by
  have := h b c t fr hb
  rw [hW.block b (Array.getElem?_eq_some_iff.1 this).1]
  exact this
def BkX (F : Fz) := { x : Nat × Option Addr × Nat × Stp // Bs F (.slice x.2.1 x.2.2.2.other.length x.2.2.1) x.2.2.2.other ∧ x.2.2.2.bit < 145 ∧ x.2.2.2.other.length = 32 }
def bkS {F : Fz} (x : BkX F) : Stp := x.1.2.2.2
def bkV {F : Fz} (x : BkX F) : Value := .slice x.1.2.1 (bkS x).other.length x.1.2.2.1
theorem Bs.cells {F F' : Fz} {v : Value} {l : By} (h : Bs F v l) (hc : ∀ b o u, bM F b o = some u → bM F' b o = some u) : Bs F' v l := by
 obtain ⟨a, c, h1, h2, h3, h4, h5⟩ := h
 exact ⟨a, c, h1, h2, h3, h4, h5.imp id fun ⟨b, o, h6, h7⟩ => ⟨b, o, h6, fun j u hu => hc _ _ _ (h7 j u hu)⟩⟩
def UpI {F1 : Fz} (w0 : World) (F0 : Fz) (B b5 : Nat) (d0 : By) (pre : List (BkX F1)) (W : World) : Prop :=
  (w0.heap.size ≤ b5 ∧ b5 < B ∧ w0.heap.size ≤ B ∧ B ≤ W.heap.size) ∧ ∃ F da dc, Gr w0 F0 W F ∧ Le F1 F ∧ (∀ r o, B ≤ r → W.heap[r]? = some o → o.isCells = false → F r = none) ∧ F b5 = none ∧ W.heap[b5]? = some (.cells #[.slice da (pre.foldl (fun d x => up1 (bkS x) d) d0).length dc] 25 (0, 0)) ∧ Bs F (.slice da (pre.foldl (fun d x => up1 (bkS x) d) d0).length dc) (pre.foldl (fun d x => up1 (bkS x) d) d0)
theorem UpI.own {F1 : Fz} {w0 : World} {F0 : Fz} {B b5 : Nat} {d0 : By} : OwnFrom B (UpI (F1 := F1) w0 F0 B b5 d0) := by
 intro pre W W' row ⟨⟨hb1, hb2, hb3, hB⟩, F, da, dc, hG, hle, hcl, h5n, h5, hbs⟩ hg hr
 have hrow : ∀ k, row = some k → F k = none := fun k e => by
  obtain ⟨h1, o, h2, h3⟩ := hr k e
  exact hcl k o h1 h2 h3
 have h5' : W'.heap[b5]? = some (.cells #[.slice da (pre.foldl (fun d x => up1 (bkS x) d) d0).length dc] 25 (0, 0)) := by
  rw [hg.block b5 (Array.getElem?_eq_some_iff.1 h5).1 (fun e => by have := (hr b5 e.symm).1; omega)]
  exact h5
 refine ⟨⟨hb1, hb2, hb3, Nat.le_trans hB hg.size⟩, F, da, dc, ⟨hG.below.grown hg (by omega) (fun k e => by have := (hr k e).1; omega), hG.old, hG.sat.grown hg hrow⟩, hle, fun r o hrB ho hc => ?_, h5n, h5', hbs⟩
 by_cases hlt : r < W.heap.size
 by_cases e : some r = row
 exact hrow r e.symm
 rw [hg.block r hlt e] at ho
 exact hcl r o hrB ho hc
 exact hG.sat.out (by omega)
def UpX {F1 : Fz} (B : Nat) (fr : Nat → BkX F1 → Array Value) (x : BkX F1) (a' : Act) (W : World) : Prop :=
  ∃ Bx, B ≤ Bx ∧ W.heap[Bx]? = some (.cells #[.int .i64 (((bkS x).bit : Nat) : Int), .bool (bkS x).right, bkV x] 204 (0, 0)) ∧ a' = ⟨fr Bx x, []⟩
theorem UpX.own {F1 : Fz} {B B' : Nat} {fr : Nat → BkX F1 → Array Value} {x : BkX F1} {a' : Act} : OwnFrom B' (fun (_ : Unit) W => UpX B fr x a' W) := by
 rintro _ W W' row ⟨Bx, h1, h2, h3⟩ hg hr
 refine ⟨Bx, h1, ?_, h3⟩
 rw [hg.block Bx (Array.getElem?_eq_some_iff.1 h2).1 (fun e => by obtain ⟨_, o, ho, hc⟩ := hr Bx e.symm; rw [h2] at ho; cases ho; cases hc)]
 exact h2
theorem UpI.below {F1 : Fz} {w0 W w : World} {F0 : Fz} {B b5 : Nat} {d0 : By} {pre : List (BkX F1)} (h : UpI w0 F0 B b5 d0 pre W) (hb : Below W.heap.size W w) : UpI w0 F0 B b5 d0 pre w := by
 obtain ⟨⟨hb1, hb2, hb3, hB⟩, F, da, dc, hG, hle, hcl, h5n, h5, hbs⟩ := h
 refine ⟨⟨hb1, hb2, hb3, Nat.le_trans hB hb.size⟩, F, da, dc, hG.trans (Gr.of_below hG.sat hb), hle, fun r o hrB ho hc => ?_, h5n, (hb.block b5 (Array.getElem?_eq_some_iff.1 h5).1).trans h5, hbs⟩
 by_cases hlt : r < W.heap.size
 rw [hb.block r hlt] at ho
 exact hcl r o hrB ho hc
 exact hG.sat.out (by omega)
theorem UpI.end {F1 : Fz} {w0 W : World} {F0 : Fz} {B b5 D : Nat} {d0 : By} {pre : List (BkX F1)} (h : UpI w0 F0 B b5 d0 pre W) (hD : B ≤ D) (hK : W.heap[D]? = some (.deferred (some []))) :
    ∃ da dc F, W.cell? ⟨b5, 0, none⟩ = some (.slice da (pre.foldl (fun d x => up1 (bkS x) d) d0).length dc) ∧ Gr w0 F0 (W.putObj D (.deferred none)) F ∧ Bs F (.slice da (pre.foldl (fun d x => up1 (bkS x) d) d0).length dc) (pre.foldl (fun d x => up1 (bkS x) d) d0) := by
 obtain ⟨⟨hb1, hb2, hb3, hB⟩, F, da, dc, hG, hle, hcl, h5n, h5, hbs⟩ := h
 exact ⟨da, dc, F, by simp [World.cell?, h5], ⟨hG.below.grown (grownBy_putObj' W D _) (by omega) (fun k e => by cases e; omega), hG.old, hG.sat.grown (grownBy_putObj' W D _) (fun k e => by cases e; exact hcl D _ hD hK rfl)⟩, hbs⟩
def bW (l : aO) : List Pr := l.map fun t => (t.1, dU t.2)
def rE (l : aO) : By := dU (bW l)
theorem PM {l : aO} {k : Nat} {t : By × List Pr} (h : l[k]? = some t) : bW (l.take k) ++ [(t.1, dU t.2)] = bW (l.take (k + 1)) := by
 rw [fK h]; simp [bW]
theorem IU {m : Nat} {l : aO} (h : ForestOk m l) : TreeOk 60 (bW l) := by
 refine ⟨by unfold bW; rw [List.length_map]; have := h.len; omega, fun p hp => ?_, ?_⟩
 obtain ⟨t, ht, rfl⟩ := List.mem_map.1 hp
 have := h.name t ht
 exact ⟨this.1, by have := this.2; simp; omega, by simp [uP]⟩
 exact List.pairwise_map.2 h.rise
theorem SK (l : aO) : (bW l).length = l.length := by simp [bW]
theorem XL (l : aO) : (rE l).length = 32 := uP _
theorem IV (F : Fz) (w : World) (v : Value) (l : aO) (hs : Sat w F) (hT : Tabs w) (hv : Tns F v l) (ok : ForestOk 60 l) :
    Calls Tryz.prog 101 #[v] w (rV w F 2 PrC 50 (bW l)) := by
 obtain ⟨a, c, rfl, hc1, hc2⟩ := Sl.shape hv
 unfold maxLen at hc2
 have hl8 := ok.len
 obtain ⟨c8, b1, b2, b3, b4⟩ := info_parts nQ
 have S := St.start hs
 go_enter Tryz.func101, Tryz.ntmps101
 refine sk fun K1 hK1 => ?_
 refine dy ?_
 refine wn hK1 ?_
 refine sk fun K2 hK2 => ?_
 refine dy ?_
 refine wn hK2 ?_
 refine aE fun K3 hK3 => ?_
 refine sk fun K4 hK4 => ?_
 refine aC ?_
 refine wn hK4 ?_
 refine aM ?_
 have S5 := St.addNil S 2 PrC PrC.mono 50 w.heap.size
 refine bA (fun mm aa w8 => ∃ (k : Nat) (v : Value) (F6 : Fz) (u7 : Nat → Value), mm = l.length - k ∧ u7 = dV aa ∧ aa = ⟨([(.slice a l.length c), undef, Zn, v, undef] ++ (usF u7 5 3 ([(.slice a l.length c), (nI l.length), (nI k)] ++ (usF u7 11 18 [undef])))).toArray, []⟩ ∧ St w F w8 F6 [] [bZ 2 PrC PrC.mono 50 w.heap.size v (bW (l.take k))] ∧ Le F F6 ∧ (k ≤ l.length)) _ ⟨0, Zn, F, _, rfl, rfl, rfl, S5, Le.refl _, (by omega)⟩ ?_
 rintro m9 e6 e7 ⟨k, v, F6, u7, rfl, -, hfr, a6, a7, hk⟩ e8 b5
 simp only [uzF, Nat.reduceAdd] at hfr; subst hfr
 refine sk fun e9 a8 => ?_
 by_cases b6 : k < l.length
 refine eZ ?_
 refine wn a8 ?_
 refine aE fun f0 b7 => ?_
 refine aJ ?_
 refine aH ?_
 refine b7 _ _ ?_
 refine aE fun f1 b9 => ?_
 refine aM ?_
 refine aE fun f2 c0 => ?_
 obtain ⟨t, ht⟩ : ∃ t, l[k]? = some t := ⟨l[k], List.getElem?_eq_getElem b6⟩
 have hnm := (ok.name t (List.mem_of_getElem? ht)).2
 have hrl := SK (l.take k)
 rw [List.length_take] at hrl
 obtain ⟨c9, d0, c1, d1, d2, d3, d4, d5, d6, d7, d8⟩ := Tns.get (hv.mono a7) ht
 refine aB ?_
 refine dr (pP c9 (d0 + k * 2)) (bP (i := k) (sz := 2) Tryz.underlying24 (cX _) rfl c1 rfl (by omega) rfl) ?_
 refine dr _ (aD rfl (cN Tryz.underlying66 rfl (jL) (kC (St.fz a6 d5) (St.fz a6 d6)))) ?_
 simp only [pq]
 refine sA a6 (xF _) fun f3 f4 d9 => ?_
 refine sW 0 d9 (jL) fun f5 c2 => ?_
 refine wlK c0 ?_
 refine sk fun f6 c3 => ?_
 refine aC ?_
 refine aR c2 rfl (fn1 (BG _ _)) (vA _ _ _ t.2 (c2).sat (hT.at c2.gr.below) d8 ((ok.tree t (List.mem_of_getElem? ht)).mono (by omega))) ?_
 intro f7 f8 f9 c6 a9 e0
 obtain ⟨g0, rfl, b0⟩ := e0
 obtain ⟨a0, a1, rfl, _⟩ := b0.shape
 have b0 : Bs _ (.slice a0 (dU t.2).length a1) (dU t.2) := b0
 refine aC ?_
 refine wn c3 ?_
 refine aB ?_
 refine aC ?_
 refine aR c6 rfl (fn1 (gN _ _)) (cZ _ _ _ t.1 (c6).sat (d7.mono a9) (by omega)) ?_
 intro g1 g2 e1 e2 a4 c4
 obtain ⟨a2, a3, rfl, _⟩ := c4.shape
 refine dx ?_
 refine dr (.agg #[(.slice a2 t.1.length a3), (.slice a0 (dU t.2).length a1)]) (aL (fY rfl rfl) (by kernel_rfl)) ?_
 refine bD e2 (v := fun n => .slice (aA n 0) 1 1) rfl (bS (ps := #[(0, (.agg #[(.slice a2 t.1.length a3), (.slice a0 (dU t.2).length a1)]))]) (cells := #[(.slice a2 t.1.length a3), (.slice a0 (dU t.2).length a1)]) (E := 50) (cH rfl) (fun w => by kernel_rfl)) (fun g3 g4 c7 => ?_)
 simp only [pq]
 refine eN (i := 0) (r := 0) (p := (t.1, dU t.2)) (cs := [(.slice a2 t.1.length a3), (.slice a0 (dU t.2).length a1)]) c7 rfl c8 (.agg #[Zn, Zn]) 48 Tryz.underlying47 b1 b2 b3 b4 rfl (by decide) rfl rfl rfl rfl rfl (PrC.oneCell (p := (t.1, dU t.2)) ⟨_, _, rfl, c4, (b0.mono a4)⟩) (⟨_, _, rfl, c4, (b0.mono a4)⟩) (Nat.le_refl _) c7.gr.below.size (by unfold maxLen; omega) (by omega) ?_
 intro e3 g5 a5 e4
 simp only [pq]
 have a5 := St.drop a5 (.cons _ (List.Sublist.refl _))
 refine dy ?_
 refine wlK b9 ?_
 refine aB ?_
 refine cO (k + 1) ?_
 refine dx ?_
 simp only [pq]
 refine aG ?_
 have a5 := St.drop a5 (.cons _ (List.Sublist.refl _))
 rw [PM ht] at a5
 exact b5 _ _ _ (by omega) ⟨(k + 1), e3, e1, _, rfl, rfl, rfl, a5, ((a7.trans a9).trans a4), (by omega)⟩
 refine eT ?_
 refine wn a8 ?_
 refine aE fun g6 e5 => ?_
 refine aF ?_
 refine cV ?_
 refine hK3 _ _ ?_
 refine sk fun g7 c5 => ?_
 refine aC ?_
 refine wn c5 ?_
 refine aP ?_
 try simp only [xt]
 refine bR (bK rfl (gD rfl)) ?_
 obtain rfl : k = l.length := by omega
 exact ⟨_, _, rfl, a6.gr, by have h := St.own (i := 0) a6 rfl; rwa [List.take_length] at h⟩
theorem AS (F : Fz) (w : World) (v : Value) (l : aO) (hs : Sat w F) (hT : Tabs w) (hv : Tns F v l) (ok : ForestOk 60 l) :
    Calls Tryz.prog 87 #[v] w (dB w F (Bl (rE l) 0)) := by
 obtain ⟨a, c, rfl, hc1, hc2⟩ := Sl.shape hv
 unfold maxLen at hc2
 have S := St.start hs
 go_enter Tryz.func87, Tryz.ntmps87
 refine sk fun K1 hK1 => ?_
 iterate 2 refine dy ?_
 refine wn hK1 ?_
 refine aE fun K2 hK2 => ?_
 refine sk fun K3 hK3 => ?_
 refine dx ?_
 simp only [pq]
 refine aI (v := (iI 0)) S rfl (fn1 (KO _ _)) (wB _ _ _ l (S).sat hv ok) (fun w4 S5 => ?_)
 refine dy ?_
 refine wn hK3 ?_
 refine sk fun K6 hK6 => ?_
 refine dx ?_
 refine nB ?_
 simp only [pq]
 refine wn hK6 ?_
 refine aF ?_
 refine aH ?_
 refine hK2 _ _ ?_
 refine sk fun K7 hK7 => ?_
 refine dx ?_
 refine aR S5 rfl (fn1 (TX _ _)) (nT PrC.mono (IV _ _ _ l (S5).sat (hT.at S5.gr.below) hv ok)) ?_
 intro a8 w8 a9 S9 a4 a3
 obtain ⟨b0, b1, rfl, _⟩ := Sl.shape a3
 refine aR S9 rfl (fn1 (BG _ _)) (vA _ _ _ (bW l) (S9).sat (hT.at S9.gr.below) a3 (IU ok)) ?_
 intro b2 b3 b4 a5 a6 a7
 obtain ⟨b5, rfl, a0⟩ := a7
 obtain ⟨a1, a2, rfl, _⟩ := a0.shape
 have a0 : Bs _ (.slice a1 (dU (bW l)).length a2) (dU (bW l)) := a0
 refine aC ?_
 refine wn hK7 ?_
 refine aP ?_
 try simp only [xt]
 refine bR (cC rfl (gD rfl) (gD rfl)) ?_
 exact ⟨_, _, rfl, a5.gr, _, rfl, a0⟩
end Go.Proofs.YtilgpdpooildcaaGreatDoor
