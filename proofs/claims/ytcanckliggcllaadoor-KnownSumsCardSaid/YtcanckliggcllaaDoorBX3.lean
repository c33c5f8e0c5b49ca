/- Rules, plain laws and walks: DG3 DG4 -/
import Derived.Test.YtcanckliggcllaaDoorBX2
import Derived.Test.YtcanckliggcllaaDoorBX1
namespace Go.Proofs.YtcanckliggcllaaDoor
open Go.RowKit
set_option maxRecDepth 100000
set_option linter.unusedVariables false
set_option linter.unusedSimpArgs false
theorem by_at {E base : Nat} {w : World} {F : Fz} {l : By} {a : Option Addr} {n c : Nat} (h : Own 1 ByC E base w F (.slice a n c) l) {i : Nat} {b : UInt8} (hp : l[i]? = some b) : ∃ g, a = some ⟨g, 0, none⟩ ∧ w.cell? ⟨g, 0 + i * 1, none⟩ = some (bv b) := by
  obtain ⟨g, cs, e, _, r, hr⟩ := h.at hp
  have r : cs = [bv b] := r
  subst r
  refine ⟨g, e, ?_⟩
  have := hr 0 _ rfl
  rw [Nat.zero_add]
  simpa using this
section
variable {P : Program} {ρ : Operand → Value} {w : World} {d : Option Tmp} {t X Y E : TypeId} {pos : String} {after : Array Edge} {guard : Option (Nat × Bool)} {x y : Operand}
theorem or128 (b : UInt8) : bits .or .u8 (b.toNat : Int) 128 = ((b ||| 128).toNat : Int) := by
  have e1 : BitVec.ofInt 8 (b.toNat : Int) = b.toBitVec := by rw [BitVec.ofInt_natCast]; simp
  have e2 : BitVec.ofInt 8 (128 : Int) = (128 : UInt8).toBitVec := by decide
  have e3 : (b ||| 128).toNat = (b.toBitVec ||| (128 : UInt8).toBitVec).toNat := by rw [← UInt8.toBitVec_or]; rfl
  have hlt := (b ||| 128).toNat_lt
  unfold bits
  show IntKind.u8.wrap (((BitVec.ofInt 8 (b.toNat : Int) ||| BitVec.ofInt 8 (128 : Int)).toNat : Nat) : Int) = _
  rw [e1, e2, ← e3, show IntKind.u8.wrap (((b ||| 128).toNat : Nat) : Int) = (((b ||| 128).toNat : Nat) : Int) % 256 from rfl]
  omega
theorem ex_orB {b : UInt8} (hx : ρ x = bv b) (hy : ρ y = .int .u8 128) : (execOp ρ ⟨d, .binOp .or X x y Y, t, pos, after, guard⟩).run P w = .ok (.value (bv (b ||| 128))) w := by
  refine ex_bin hx hy ?_
  rw [run_binInt _ (by simp)]
  show Result.ok (Value.int .u8 (bits .or .u8 (b.toNat : Int) 128)) w = _
  rw [or128]; rfl
theorem ex_quoA {m n : Nat} (hx : ρ x = .int .i64 (m : Int)) (hy : ρ y = .int .i64 (n : Int)) (hn : 0 < n) (hm : m ≤ 9223372036854775807) : (execOp ρ ⟨d, .binOp .quo X x y Y, t, pos, after, guard⟩).run P w = .ok (.value (.int .i64 ((m / n : Nat) : Int))) w := by
  refine ex_bin hx hy ?_
  rw [run_binInt _ (by simp)]
  show (Op.intDiv .quo .i64 m n).run P w = _
  unfold Op.intDiv
  rw [if_neg (by omega)]
  show Result.ok (Value.int .i64 (IntKind.i64.wrap (Int.tdiv (m : Int) (n : Int)))) w = _
  have hle : m / n ≤ m := Nat.div_le_self m n
  rw [Int.tdiv_eq_ediv_of_nonneg (by omega), ← Int.natCast_ediv]
  generalize m / n = q at *
  rw [wrap64_in (by omega) (by omega)]
theorem ex_shlL {a : BitVec 64} {n : Nat} (hx : ρ x = laneV a) (hy : ρ y = .int .i64 (n : Int)) (hn : n ≤ 64) : (execOp ρ ⟨d, .binOp .shl X x y Y, t, pos, after, guard⟩).run P w = .ok (.value (laneV (a <<< n))) w := by
  have e : (eqGuard .shl X x y (.int .u64 (lane a)) (.int .i64 (n : Int))).run P w = .ok () w := rfl
  have h : (binOp .shl X (.int .u64 (lane a)) (.int .i64 (n : Int))).run P w = .ok (laneV (a <<< n)) w := by
    show (Op.shift .shl .u64 (lane a) .i64 (n : Int)).run P w = _
    unfold Op.shift
    rw [if_neg (by omega)]
    show Result.ok (Value.int .u64 (IntKind.u64.wrap (lane a * 2 ^ (min (n : Int).toNat 64)))) w = _
    rw [Int.toNat_natCast, Nat.min_eq_left hn, lane_shl]
  simp only [execOp, hx, hy, Sem.run_bind, e, Result.andThen_ok, h, Sem.run_pure]
theorem ex_shrL {a : BitVec 64} {n : Nat} (hx : ρ x = laneV a) (hy : ρ y = .int .i64 (n : Int)) (hn : n ≤ 64) : (execOp ρ ⟨d, .binOp .shr X x y Y, t, pos, after, guard⟩).run P w = .ok (.value (laneV (a >>> n))) w := by
  have e : (eqGuard .shr X x y (.int .u64 (lane a)) (.int .i64 (n : Int))).run P w = .ok () w := rfl
  have h : (binOp .shr X (.int .u64 (lane a)) (.int .i64 (n : Int))).run P w = .ok (laneV (a >>> n)) w := by
    show (Op.shift .shr .u64 (lane a) .i64 (n : Int)).run P w = _
    unfold Op.shift
    rw [if_neg (by omega)]
    show Result.ok (Value.int .u64 (Int.fdiv (lane a) (2 ^ (min (n : Int).toNat 64)))) w = _
    rw [Int.toNat_natCast, Nat.min_eq_left hn, Int.fdiv_eq_ediv_of_nonneg _ (show (0 : Int) ≤ 2 ^ n from Int.le_of_lt (Int.pow_pos (by decide))), lane_shr]
  simp only [execOp, hx, hy, Sem.run_bind, e, Result.andThen_ok, h, Sem.run_pure]
theorem conv_u64 (b : UInt8) (w : World) : (convert 5 88 (bv b)).run Tryd.prog w = .ok (laneV (BitVec.ofNat 64 b.toNat)) w := by
  have : (convert 5 88 (bv b)).run Tryd.prog w = .ok (.int .u64 (IntKind.u64.wrap (b.toNat : Int))) w := by kernel_rfl
  have hb := b.toNat_lt
  have e : IntKind.u64.wrap (b.toNat : Int) = lane (BitVec.ofNat 64 b.toNat) := by
    rw [wrap_u64]; unfold lane; simp; omega
  rw [this, e]
theorem conv_low (a : BitVec 64) (w : World) : (convert 88 5 (laneV a)).run Tryd.prog w = .ok (bv (UInt8.ofNat (a.toNat % 256))) w := by
  have : (convert 88 5 (laneV a)).run Tryd.prog w = .ok (.int .u8 (IntKind.u8.wrap (lane a))) w := by kernel_rfl
  have e : IntKind.u8.wrap (lane a) = ((UInt8.ofNat (a.toNat % 256)).toNat : Int) := by
    rw [show IntKind.u8.wrap (lane a) = lane a % 256 from rfl]; unfold lane; simp
  rw [this, e]; rfl
end
def padK (b : By) (k : Nat) : By := (b ++ [6]) ++ List.replicate k 0
def padN (b : By) : Nat := (136 - (b.length + 1) % 136) % 136
theorem padK_len (b : By) (k : Nat) : (padK b k).length = b.length + 1 + k := by simp [padK]; omega
theorem padK_step (b : By) (k : Nat) : padK b k ++ [0] = padK b (k + 1) := by
  unfold padK
  rw [List.append_assoc, List.replicate_succ']
theorem padK_zero (b : By) : b ++ [6] = padK b 0 := by simp [padK]
theorem padL_of {b : By} {x : UInt8} (h : (padK b (padN b))[(padK b (padN b)).length - 1]? = some x) : (padK b (padN b)).set ((padK b (padN b)).length - 1) (x ||| 128) = padL b := by
  have e : (padK b (padN b)).getD ((padK b (padN b)).length - 1) 0 = x := by rw [List.getD_eq_getElem?_getD, h]; rfl
  rw [← e]
  unfold padL padK padN
  simp only [List.length_append, List.length_singleton]
theorem padL_len (b : By) : (padL b).length = b.length + 1 + padN b := by
  unfold padL padN
  simp only [List.length_set, List.length_append, List.length_singleton, List.length_replicate]
theorem mix_len (S : List (BitVec 64)) (p : By) : ∀ n, (mixL S p n).length = S.length := by
  intro n
  induction n with
  | zero => rfl
  | succ n ih => unfold mixL at *; rw [List.range_succ, List.foldl_append]; simpa using ih
theorem mix_step (S : List (BitVec 64)) {p : By} {n : Nat} {x : UInt8} (h : p[n]? = some x) : (mixL S p n).set (n / 8) (at0 (mixL S p n) (n / 8) ^^^ (BitVec.ofNat 64 x.toNat <<< (n % 8 * 8))) = mixL S p (n + 1) := by
  have e : p.getD n 0 = x := by rw [List.getD_eq_getElem?_getD, h]; rfl
  rw [← e]
  unfold mixL
  rw [List.range_succ, List.foldl_append]
  rfl
theorem stirL_len (S : List (BitVec 64)) (r : Nat) : (stirL S r).length = 25 := by
  unfold stirL
  simp [chiL, mapL]
theorem stirs_step (S : List (BitVec 64)) (n : Nat) : stirL (stirsL S n) n = stirsL S (n + 1) := by
  unfold stirsL
  rw [List.range_succ, List.foldl_append]
  rfl
theorem stirs_len {S : List (BitVec 64)} (h : S.length = 25) : ∀ n, (stirsL S n).length = 25
  | 0 => h
  | n + 1 => by rw [← stirs_step]; exact stirL_len _ _
theorem absorb_step {Z : List (BitVec 64)} {p : By} (h : 136 ≤ p.length) : absorbL Z p (p.length / 136) = absorbL (stirsL (mixL Z p 136) 24) (p.drop 136) ((p.drop 136).length / 136) := by
  rw [List.length_drop, show p.length / 136 = (p.length - 136) / 136 + 1 from by omega]
  rfl
def outAt (Z : List (BitVec 64)) (i : Nat) : UInt8 := UInt8.ofNat ((at0 Z (i / 8) >>> (i % 8 * 8)).toNat % 256)
def outK (Z : List (BitVec 64)) (k : Nat) : By := (List.range 32).map fun i => if i < k then outAt Z i else 0
theorem outK_len (Z : List (BitVec 64)) (k : Nat) : (outK Z k).length = 32 := by simp [outK]
theorem outK_zero (Z : List (BitVec 64)) : outK Z 0 = List.replicate 32 0 := by unfold outK; rfl
theorem outK_all (Z : List (BitVec 64)) : outK Z 32 = outL Z := by
  unfold outK outL
  exact List.map_congr_left fun i hi => by rw [if_pos (List.mem_range.1 hi)]; rfl
theorem outK_step (Z : List (BitVec 64)) {k : Nat} (h : k < 32) : (outK Z k).set k (outAt Z k) = outK Z (k + 1) := by
  apply List.ext_getElem (by simp [outK])
  intro i h1 h2
  simp only [outK, List.getElem_set, List.getElem_map, List.getElem_range]
  by_cases e : k = i
  · subst e; simp
  · rw [if_neg e]
    by_cases e2 : i < k
    · rw [if_pos e2, if_pos (by omega)]
    · rw [if_neg e2, if_neg (by omega)]
theorem bytes_set {l : By} {j : Nat} {x : UInt8} (h : j < l.length) : splice (l.map bv) j [bv x] = (l.set j x).map bv := by
  unfold splice
  rw [List.map_set, List.set_eq_take_append_cons_drop, if_pos (by simpa using h)]
  simp
theorem zero_90 (w : World) : (zeroValue 90).run Tryd.prog w = .ok (.agg ((List.replicate 25 (0 : BitVec 64)).map laneV).toArray) w := by kernel_rfl
theorem stStir {P : Program} {w0 w : World} {F0 F : Fz} {rb : Nat} {T : TypeId} {L0 : List Blk} {M0 : List RowP} {Z : List (BitVec 64)} {ops : Array Oper} {Q : Exit → Act → World → Prop} {a : Act} {rest : List Oper} {o : Oper} {k : FuncId} {vs : Array Value} (hw : Region.wanted o (yielded ops a.tmps) = true)
    (hr : (execOp a.eval o).run P w = .ok (.enter k vs) w) (hc : Calls P k vs w fun e w' => e = .returned (.tuple #[]) ∧ St w0 F0 w' F (⟨rb, Z.map laneV, T⟩ :: L0) M0)
    (h : ∀ w', St w0 F0 w' F (⟨rb, Z.map laneV, T⟩ :: L0) M0 → WL P ops Q rest (a.put o.dst (.tuple #[])) w') : WL P ops Q (o :: rest) a w :=
  doC hw hr hc fun e w' ⟨he, hS⟩ => ⟨_, he, h w' hS⟩
end Go.Proofs.YtcanckliggcllaaDoor
namespace Go.Proofs.YtcanckliggcllaaDoor
open Go.RowKit
set_option maxRecDepth 100000
set_option linter.unusedVariables false
set_option linter.unusedSimpArgs false
theorem Sl.dropD {α : Type} {k : Nat} {R : Fz → List Value → α → Prop} {F : Fz} {a : Option Addr} {n c m : Nat} {l : List α} (hk : 0 < k) (h : Sl k R F (.slice a n c) l) (hm : m ≤ n) : Sl k R F (.slice (if c = m then a else a.map (·.add (m * k))) (n - m) (c - m)) (l.drop m) := by
  have hn := Sl.len h
  obtain ⟨el, h1, h2, h3⟩ := h
  obtain ⟨a0, c0, e1, q1, q2, q3, q4⟩ := h1
  injection e1 with e1 e2 e3
  subst e1; subst e3
  have hll := h2.len
  by_cases hmn : m = l.length
  · have e : l.drop m = [] := List.drop_of_length_le (by omega)
    have e0 : n - m = 0 := by omega
    rw [e, e0]
    refine ⟨[], ⟨_, c - m, rfl, by simp, by omega, fun e => ?_, .inl rfl⟩, trivial, by simp⟩
    cases a with
    | none => have := q3 rfl; exact ⟨rfl, by omega⟩
    | some ad => split at e <;> cases e
  · have hpos : el.flatten ≠ [] := by
      intro e
      have := congrArg List.length e
      rw [flatten_len h3, hll] at this
      have := Nat.mul_pos (show 0 < l.length by omega) hk
      simp at *
      omega
    obtain ⟨b, o, e, hc⟩ := q4.resolve_left hpos
    subst e
    rw [if_neg (by omega)]
    have hs : Sl k R F (.slice (some ⟨b, o, none⟩) n c) l := ⟨el, ⟨_, _, by rw [hn], q1, q2, q3, .inr ⟨b, o, rfl, hc⟩⟩, h2, h3⟩
    have := Sl.dropN (m := m) hs hm rfl rfl
    show Sl k R F (.slice (some (Addr.add ⟨b, o, none⟩ (m * k))) _ _) _
    rw [Addr.add_mid]
    exact this
theorem Bs.restD {F : Fz} {a : Option Addr} {m c n : Nat} {l : By} (h : Bs F (.slice a m c) l) (hn : n ≤ m) : Bs F (.slice (if c = n then a else a.map (·.add (n * 1))) (m - n) (c - n)) (l.drop n) := bs_of_sl (Sl.dropD (by decide) h.sl hn)
theorem made_bytes (n : Nat) : (madeCells (Value.int .u8 0).cells (n * 1)).toList = (List.replicate n (0 : UInt8)).map bv := by
  rw [show (Value.int .u8 0).cells = #[.int .u8 0] from rfl, toList_madeCells_one]; simp [bv]
theorem stirs_zero (S : List (BitVec 64)) : stirsL S 0 = S := rfl
theorem mix_zero (S : List (BitVec 64)) (p : By) : mixL S p 0 = S := rfl
theorem absorb_at {Z X R : List (BitVec 64)} {p : By} (hX : X = mixL Z p 136) (h : 136 ≤ p.length) (e : absorbL Z p (p.length / 136) = R) : absorbL (stirsL X 24) (p.drop 136) ((p.drop 136).length / 136) = R := by
  rw [hX, ← absorb_step h]; exact e
theorem absorb_end {Z R : List (BitVec 64)} {p : By} (h : p.length / 136 = 0) (e : absorbL Z p (p.length / 136) = R) : Z = R := by
  rw [h] at e; rw [← e]; cases p <;> rfl
theorem outL_len (Z : List (BitVec 64)) : (outL Z).length = 32 := by simp [outL]
set_option maxHeartbeats 8000000 in
theorem sum_own (F : Fz) (w : World) (v : Value) (b : By) (hs : Sat w F) (hT : Tabs w) (hb : Bs F v b) (hn : b.length ≤ 100000) :
    Calls Tryd.prog 36 #[v] w (GivesO w F 1 ByC 5 (sumL b)) := by
 obtain ⟨x, y, rfl, hc1', hc2'⟩ := hb.shape
 unfold maxLen at hc2'
 obtain ⟨i5, hi5, hz5, hs5, hb5⟩ := info_parts infoU8
 have S := St.start hs
 go_enter Tryd.func36, Tryd.ntmps36
 refine wp_seq_k (fun K1 hK1 => region_wl ?_)
 refine do_ rfl (.slice none 0 0) (ex_assign _) ?_
 simp only [pS, pN, pA, pC, pZ]
 refine wl_nil (hK1 _ _ ?_)
 refine wp_seq_k (fun K2 hK2 => region_wl ?_)
 refine do_ rfl (.slice x b.length y) (ex_move _) ?_
 simp only [pS, pN, pA, pC, pZ]
 have S3 := St.addNil S 1 ByC ByC.mono 5 w.heap.size
 refine stAppendS (r := 0) (u := (.slice x b.length y)) S3 rfl i5 (.int .u8 0) 1 Tryd.underlying22 hi5 hz5 hs5 hb5 rfl (by decide) rfl rfl rfl (Sl.toW (Bs.sl hb) (S3).sat) ByC.one (Nat.le_refl _) S3.gr.below.size (by unfold maxLen; simp only [List.length_nil]; omega) (by simp only [List.length_nil]; omega) ?_
 intro v4 w5 S6 hn7
 simp only [pS, pN, pA, pC, pZ]
 have S6 : St w F w5 F [] [ownP 1 ByC ByC.mono 5 w.heap.size v4 ([] ++ b)] := S6
 refine stNew S6 (v := fun n => .slice (some ⟨n, 0, none⟩) 1 1) rfl (ex_lit (ps := #[(0, (.int .u8 6))]) (cells := #[(.int .u8 6)]) (E := 5) (bmap1 rfl) (fun w => by kernel_rfl)) (fun n8 w9 S10 => ?_)
 simp only [pS, pN, pA, pC, pZ]
 have S10 : St w F w9 F [⟨n8, [(.int .u8 6)], 5⟩] [ownP 1 ByC ByC.mono 5 w.heap.size v4 ([] ++ b)] := S10
 rw [List.nil_append] at S10
 refine stPush (i := 0) (r := 0) (p := (6 : UInt8)) (cs := [(.int .u8 6)]) S10 rfl i5 (.int .u8 0) 1 Tryd.underlying22 hi5 hz5 hs5 hb5 rfl (by decide) rfl rfl rfl rfl rfl (bv_one 6) (rfl) (Nat.le_refl _) S10.gr.below.size (by unfold maxLen; omega) (by omega) ?_
 intro v11 w12 S13 hn14
 simp only [pS, pN, pA, pC, pZ]
 have S13 := St.drop S13 (L' := []) (.cons _ (List.Sublist.refl _))
 have S13 : St w F w12 F [] [ownP 1 ByC ByC.mono 5 w.heap.size v11 (b ++ [(6 : UInt8)])] := S13
 refine do_ rfl v11 (ex_assign _) ?_
 simp only [pS, pN, pA, pC, pZ]
 refine wl_nil (hK2 _ _ ?_)
 refine wp_seq_k (fun K15 hK15 => ?_)
 refine wp_block ?_
 rw [padK_zero] at S13
 refine wp_loop_g (fun mm aa w17 => ∃ (k : Nat) (v : Value) (u16 : Nat → Value), mm = padN b - k ∧ u16 = slots aa ∧ aa = ⟨#[(.slice x b.length y), undef, (.slice none 0 0), v, undef, undef, undef, undef, undef, (.slice x b.length y), v4, (.slice (some ⟨n8, 0, none⟩) 1 1), v11, (u16 13), (u16 14), (u16 15), (u16 16), (u16 17), (u16 18), (u16 19), undef, undef, undef, undef, undef, undef, undef, undef, undef, undef, undef, undef, undef, undef, undef, undef, undef, undef, undef, undef, undef, undef, undef, undef, undef, undef, undef, undef, undef, undef, undef, undef, undef, undef, undef, undef, undef, undef, undef, undef, undef, undef, undef, undef, undef, undef, undef, undef, undef, undef, undef, undef, undef, undef, undef, undef, undef, undef], []⟩ ∧ St w F w17 F [] [ownP 1 ByC ByC.mono 5 w.heap.size v (padK b k)] ∧ (k ≤ padN b)) _ ⟨0, v11, _, rfl, rfl, rfl, S13, (Nat.zero_le _)⟩ ?_
 rintro m18 a19 w20 ⟨k, v, u16, rfl, -, rfl, S21, hk⟩ K23 hK23
 refine wp_seq_k (fun K24 hK24 => ?_)
 refine wp_seq_k (fun K25 hK25 => ?_)
 have hpl := padK_len b k
 have hpn : padN b < 136 := by unfold padN; omega
 obtain ⟨a26, cap27, rfl, h28, h29⟩ := (S21.own (i := 0) rfl).shape
 unfold maxLen at h29
 refine region_wl ?_
 refine do_ rfl (.slice a26 (padK b k).length cap27) (ex_move _) ?_
 simp only [pS, pN, pA, pC, pZ]
 refine do_ rfl (.int .i64 (((padK b k).length : Nat) : Int)) (ex_len Tryd.underlying22 rfl) ?_
 simp only [pS, pN, pA, pC, pZ]
 refine do_ rfl (.int .i64 ((((padK b k).length % 136) : Nat) : Int)) (ex_remA (m := ((padK b k).length)) (n := 136) rfl rfl (by decide) (by omega)) ?_
 simp only [pS, pN, pA, pC, pZ]
 by_cases hc16 : ((padK b k).length % 136) = 0
 ·refine do_ rfl (.bool false) (ex_neq (m := ((((padK b k).length % 136) : Nat) : Int)) (n := (0 : Int)) (b := false) rfl rfl (bne_eq_false_iff_eq.2 (by omega))) ?_
  simp only [pS, pN, pA, pC, pZ]
  refine wl_nil (hK25 _ _ ?_)
  refine wp_cond_false rfl ?_
  refine wp_exit ?_
  refine hK15 _ _ ?_
  refine wp_seq_k (fun K30 hK30 => ?_)
  have hkk : k = padN b := by unfold padN at *; omega
  subst hkk
  obtain ⟨xb, hxb⟩ : ∃ x, (padK b (padN b))[(padK b (padN b)).length - 1]? = some x := ⟨_, List.getElem?_eq_getElem (by omega)⟩
  obtain ⟨g31, ha32, c33⟩ := by_at (St.own S21 (i := 0) rfl) hxb
  subst ha32
  refine region_wl ?_
  refine do_ rfl (.slice (some ⟨g31, 0, none⟩) (padK b (padN b)).length cap27) (ex_move _) ?_
  simp only [pS, pN, pA, pC, pZ]
  refine do_ rfl (.slice (some ⟨g31, 0, none⟩) (padK b (padN b)).length cap27) (ex_move _) ?_
  simp only [pS, pN, pA, pC, pZ]
  refine do_ rfl (.int .i64 (((padK b (padN b)).length : Nat) : Int)) (ex_len Tryd.underlying22 rfl) ?_
  simp only [pS, pN, pA, pC, pZ]
  refine do_ rfl (.int .i64 ((((padK b (padN b)).length - 1) : Nat) : Int)) (ex_sub (m := (((padK b (padN b)).length : Nat) : Int)) (n := (1 : Int)) (r := ((((padK b (padN b)).length - 1) : Nat) : Int)) rfl rfl (by omega) (by omega) (by omega)) ?_
  simp only [pS, pN, pA, pC, pZ]
  refine do_ rfl (.pointer (some ⟨g31, 0 + ((padK b (padN b)).length - 1) * 1, none⟩)) (ex_at (i := ((padK b (padN b)).length - 1)) (sz := 1) Tryd.underlying22 (sizeof_5 _) rfl rfl rfl (by omega) rfl) ?_
  simp only [pS, pN, pA, pC, pZ]
  refine do_ rfl (bv xb) (ex_load rfl (load1 (nagg_5 _) c33)) ?_
  simp only [pS, pN, pA, pC, pZ]
  refine do_ rfl (bv (xb ||| 128)) (ex_orB rfl rfl) ?_
  simp only [pS, pN, pA, pC, pZ]
  refine do_ rfl (.pointer (some ⟨g31, 0 + ((padK b (padN b)).length - 1) * 1, none⟩)) (ex_at (i := ((padK b (padN b)).length - 1)) (sz := 1) Tryd.underlying22 (sizeof_5 _) rfl rfl rfl (by omega) rfl) ?_
  simp only [pS, pN, pA, pC, pZ]
  refine stSetRow (r := 0) (i := ((padK b (padN b)).length - 1)) (p := (xb ||| 128)) (u := (bv (xb ||| 128))) S21 rfl rfl (by omega) rfl rfl (by omega) (size_5) (allc1 rfl) rfl rfl (Nat.le_refl _) (fun w34 S35 => ?_)
  simp only [pS, pN, pA, pC, pZ]
  have S35 : St w F w34 F [] [ownP 1 ByC ByC.mono 5 w.heap.size (.slice (some ⟨g31, 0, none⟩) (padK b (padN b)).length cap27) ((padK b (padN b)).set ((padK b (padN b)).length - 1) (xb ||| 128))] := S35
  rw [padL_of hxb] at S35
  refine wl_nil (hK30 _ _ ?_)
  refine wp_seq_k (fun K36 hK36 => ?_)
  obtain ⟨F37, S38, le39, hv40⟩ := St.freeze S35 (i := 0) rfl (Nat.le_refl _)
  have S38 : St w F w34 F37 [] [] := S38
  have hv40 : Bys _ (.slice (some ⟨g31, 0, none⟩) (padK b (padN b)).length cap27) (padL b) := hv40
  have r41 := bs_of_sl hv40
  refine region_wl ?_
  refine stNew S38 (v := fun n => .pointer (some ⟨n, 0, none⟩)) rfl (ex_alloc (zero_90 _)) (fun n42 w43 S44 => ?_)
  simp only [pS, pN, pA, pC, pZ]
  have S44 : St w F w43 F37 [⟨n42, ((List.replicate 25 (0 : BitVec 64)).map laneV), 90⟩] [] := S44
  refine wl_nil (hK36 _ _ ?_)
  refine wp_seq_k (fun K45 hK45 => ?_)
  refine wp_block ?_
  refine wp_loop_g (fun mm aa w47 => ∃ (Z : List (BitVec 64)) (ra : Option Addr) (rn : Nat) (rc : Nat) (rest : By) (u46 : Nat → Value), mm = rest.length ∧ u46 = slots aa ∧ aa = ⟨#[(.slice x b.length y), undef, (.slice none 0 0), (.slice ra rn rc), (.pointer (some ⟨n42, 0, none⟩)), (u46 5), (u46 6), undef, undef, (.slice x b.length y), v4, (.slice (some ⟨n8, 0, none⟩) 1 1), v11, (.slice (some ⟨g31, 0, none⟩) (padK b (padN b)).length cap27), (.int .i64 (((padK b (padN b)).length : Nat) : Int)), (.int .i64 ((((padK b (padN b)).length % 136) : Nat) : Int)), (.bool false), (u16 17), (u16 18), (u16 19), (.slice (some ⟨g31, 0, none⟩) (padK b (padN b)).length cap27), (.slice (some ⟨g31, 0, none⟩) (padK b (padN b)).length cap27), (.int .i64 (((padK b (padN b)).length : Nat) : Int)), (.int .i64 ((((padK b (padN b)).length - 1) : Nat) : Int)), (.pointer (some ⟨g31, 0 + ((padK b (padN b)).length - 1) * 1, none⟩)), (bv xb), (bv (xb ||| 128)), (.pointer (some ⟨g31, 0 + ((padK b (padN b)).length - 1) * 1, none⟩)), (u46 28), (u46 29), (u46 30), (u46 31), (u46 32), (u46 33), (u46 34), (u46 35), (u46 36), (u46 37), (u46 38), (u46 39), (u46 40), (u46 41), (u46 42), (u46 43), (u46 44), (u46 45), (u46 46), (u46 47), (u46 48), (u46 49), (u46 50), (u46 51), (u46 52), (u46 53), (u46 54), (u46 55), (u46 56), (u46 57), undef, undef, undef, undef, undef, undef, undef, undef, undef, undef, undef, undef, undef, undef, undef, undef, undef, undef, undef, undef], []⟩ ∧ St w F w47 F37 [⟨n42, (Z.map laneV), 90⟩] [] ∧ (Z.length = 25) ∧ (Bs F37 (.slice ra rn rc) rest) ∧ (rest.length % 136 = 0) ∧ (rest.length ≤ 200000) ∧ (absorbL Z rest (rest.length / 136) = absorbL (List.replicate 25 0) (padL b) ((padL b).length / 136))) _ ⟨(List.replicate 25 0), (some ⟨g31, 0, none⟩), (padK b (padN b)).length, cap27, (padL b), _, rfl, rfl, rfl, S44, (by simp), r41, (by rw [padL_len]; unfold padN; omega), (by rw [padL_len]; unfold padN; omega), rfl⟩ ?_
  rintro m48 a49 w50 ⟨Z, ra, rn, rc, rest, u46, rfl, -, rfl, S51, hZ, hrest, hrm, hrl, hab⟩ K53 hK53
  refine wp_seq_k (fun K54 hK54 => ?_)
  refine wp_seq_k (fun K55 hK55 => ?_)
  have hrn := hrest.len
  refine region_wl ?_
  refine do_ rfl (.slice ra rn rc) (ex_move _) ?_
  simp only [pS, pN, pA, pC, pZ]
  refine do_ rfl (.int .i64 ((rn : Nat) : Int)) (ex_len Tryd.underlying22 rfl) ?_
  simp only [pS, pN, pA, pC, pZ]
  by_cases hc30 : 0 < rn
  ·refine do_ rfl (.bool true) (ex_gtr (m := ((rn : Nat) : Int)) (n := (0 : Int)) (b := true) rfl rfl (decide_eq_true (by omega))) ?_
   simp only [pS, pN, pA, pC, pZ]
   refine wl_nil (hK55 _ _ ?_)
   refine wp_cond_true rfl ?_
   refine wp_skip ?_
   refine hK54 _ _ ?_
   refine wp_seq_k (fun K56 hK56 => ?_)
   refine wp_block ?_
   refine wp_seq_k (fun K57 hK57 => ?_)
   refine wp_seq_k (fun K58 hK58 => region_wl ?_)
   refine do_ rfl (.int .i64 0) (ex_move _) ?_
   simp only [pS, pN, pA, pC, pZ]
   refine wl_nil (hK58 _ _ ?_)
   refine wp_block ?_
   have S51 : St w F w50 F37 [⟨n42, ((mixL Z rest 0).map laneV), 90⟩] [] := by rw [mix_zero]; exact S51
   refine wp_loop_g (fun mm aa w60 => ∃ (i : Nat) (u59 : Nat → Value), mm = 136 - i ∧ u59 = slots aa ∧ aa = ⟨#[(.slice x b.length y), undef, (.slice none 0 0), (.slice ra rn rc), (.pointer (some ⟨n42, 0, none⟩)), (u59 5), (u46 6), undef, undef, (.slice x b.length y), v4, (.slice (some ⟨n8, 0, none⟩) 1 1), v11, (.slice (some ⟨g31, 0, none⟩) (padK b (padN b)).length cap27), (.int .i64 (((padK b (padN b)).length : Nat) : Int)), (.int .i64 ((((padK b (padN b)).length % 136) : Nat) : Int)), (.bool false), (u16 17), (u16 18), (u16 19), (.slice (some ⟨g31, 0, none⟩) (padK b (padN b)).length cap27), (.slice (some ⟨g31, 0, none⟩) (padK b (padN b)).length cap27), (.int .i64 (((padK b (padN b)).length : Nat) : Int)), (.int .i64 ((((padK b (padN b)).length - 1) : Nat) : Int)), (.pointer (some ⟨g31, 0 + ((padK b (padN b)).length - 1) * 1, none⟩)), (bv xb), (bv (xb ||| 128)), (.pointer (some ⟨g31, 0 + ((padK b (padN b)).length - 1) * 1, none⟩)), (.slice ra rn rc), (.int .i64 ((rn : Nat) : Int)), (.bool true), (u46 31), (u46 32), (.int .i64 ((i : Nat) : Int)), (u59 34), (u59 35), (u59 36), (u59 37), (u59 38), (u59 39), (u59 40), (u59 41), (u59 42), (u59 43), (u59 44), (u59 45), (u59 46), (u59 47), (u59 48), (u59 49), (u59 50), (u59 51), (u46 52), (u46 53), (u46 54), (u46 55), (u46 56), (u46 57), undef, undef, undef, undef, undef, undef, undef, undef, undef, undef, undef, undef, undef, undef, undef, undef, undef, undef, undef, undef], []⟩ ∧ St w F w60 F37 [⟨n42, ((mixL Z rest i).map laneV), 90⟩] [] ∧ (i ≤ 136)) _ ⟨0, _, rfl, rfl, rfl, S51, (by omega)⟩ ?_
   rintro m61 a62 w63 ⟨i, u59, rfl, -, rfl, S64, hi⟩ K66 hK66
   refine wp_seq_k (fun K67 hK67 => region_wl ?_)
   by_cases hc34 : i < 136
   ·refine do_ rfl (.bool true) (ex_lss (m := ((i : Nat) : Int)) (n := (136 : Int)) (b := true) rfl rfl (decide_eq_true (by omega))) ?_
    simp only [pS, pN, pA, pC, pZ]
    refine wl_nil (hK67 _ _ ?_)
    refine wp_seq_k (fun K68 hK68 => ?_)
    refine wp_cond_true rfl ?_
    refine wp_skip ?_
    refine hK68 _ _ ?_
    refine wp_seq_k (fun K69 hK69 => ?_)
    refine wp_block ?_
    refine wp_seq_k (fun K70 hK70 => region_wl ?_)
    refine do_ rfl (.int .i64 ((i : Nat) : Int)) (ex_move _) ?_
    simp only [pS, pN, pA, pC, pZ]
    refine do_ rfl (.int .i64 ((i : Nat) : Int)) (ex_assign _) ?_
    simp only [pS, pN, pA, pC, pZ]
    refine wl_nil (hK70 _ _ ?_)
    obtain ⟨xi, hxi⟩ : ∃ x, rest[i]? = some x := ⟨_, List.getElem?_eq_getElem (by omega)⟩
    obtain ⟨b71, o72, ha73, c74⟩ := Bs.get hrest hxi
    refine region_gw F37 13 [] (by kernel_rfl) (by kernel_rfl) ?_
    simp only [List.take_succ_cons, List.take_zero]
    refine gw_pure rfl rfl (.int .i64 ((i : Nat) : Int)) (fun w75 hCw75 => pureAt_of (ex_move _)) ?_
    simp only [pS, pN, pA, pC, pZ]
    refine gw_pure rfl rfl (.int .i64 (((i / 8) : Nat) : Int)) (fun w75 hCw75 => pureAt_of (ex_quoA (m := i) (n := 8) rfl rfl (by decide) (by omega))) ?_
    simp only [pS, pN, pA, pC, pZ]
    refine gw_pure rfl rfl (.pointer (some ⟨n42, (i / 8), none⟩)) (fun w75 hCw75 => pureAt_of (ex_atA (i := (i / 8)) Tryd.underlying90 (sizeof_88 _) rfl rfl (by omega))) ?_
    simp only [pS, pN, pA, pC, pZ]
    refine gw_pure rfl rfl (laneV (at0 (mixL Z rest i) (i / 8))) (fun w75 hCw75 => pureAt_of (ex_load rfl (load1 (nagg_88 _) (St.cell (St.tells S64 hCw75) (i := 0) rfl (lanes_at (Nat.lt_of_lt_of_eq (show (i / 8) < 25 by omega) ((mix_len _ _ _).trans hZ).symm)))))) ?_
    simp only [pS, pN, pA, pC, pZ]
    refine gw_pure rfl rfl (.slice ra rn rc) (fun w75 hCw75 => pureAt_of (ex_move _)) ?_
    simp only [pS, pN, pA, pC, pZ]
    refine gw_pure rfl rfl (.int .i64 ((i : Nat) : Int)) (fun w75 hCw75 => pureAt_of (ex_move _)) ?_
    simp only [pS, pN, pA, pC, pZ]
    refine gw_pure rfl rfl (.pointer (some ⟨b71, o72 + i * 1, none⟩)) (fun w75 hCw75 => pureAt_of (ex_at (i := i) (sz := 1) Tryd.underlying22 (sizeof_5 _) rfl ha73 rfl (by omega) rfl)) ?_
    simp only [pS, pN, pA, pC, pZ]
    refine gw_pure rfl rfl (bv xi) (fun w75 hCw75 => pureAt_of (ex_load rfl (load1 (nagg_5 _) (St.fz (St.tells S64 hCw75) c74)))) ?_
    simp only [pS, pN, pA, pC, pZ]
    refine gw_pure rfl rfl (laneV (BitVec.ofNat 64 xi.toNat)) (fun w75 hCw75 => pureAt_of (ex_convert (v := (bv xi)) rfl (conv_u64 xi _))) ?_
    simp only [pS, pN, pA, pC, pZ]
    refine gw_pure rfl rfl (.int .i64 ((i : Nat) : Int)) (fun w75 hCw75 => pureAt_of (ex_move _)) ?_
    simp only [pS, pN, pA, pC, pZ]
    refine gw_pure rfl rfl (.int .i64 (((i % 8) : Nat) : Int)) (fun w75 hCw75 => pureAt_of (ex_remA (m := i) (n := 8) rfl rfl (by decide) (by omega))) ?_
    simp only [pS, pN, pA, pC, pZ]
    refine gw_pure rfl rfl (.int .i64 ((((i % 8) * 8) : Nat) : Int)) (fun w75 hCw75 => pureAt_of (ex_mul (m := (((i % 8) : Nat) : Int)) (n := (8 : Int)) (r := ((((i % 8) * 8) : Nat) : Int)) rfl rfl (by omega) (by omega) (by omega))) ?_
    simp only [pS, pN, pA, pC, pZ]
    refine gw_pure rfl rfl (laneV ((BitVec.ofNat 64 xi.toNat) <<< ((i % 8) * 8))) (fun w75 hCw75 => pureAt_of (ex_shlL (n := ((i % 8) * 8)) rfl rfl (by omega))) ?_
    simp only [pS, pN, pA, pC, pZ]
    refine gw_nil ?_
    intro w76 hC78 hF79
    clear hF79
    have S77 := St.tells S64 hC78
    simp only [List.drop_succ_cons, List.drop_zero]
    refine do_ rfl (laneV ((at0 (mixL Z rest i) (i / 8)) ^^^ ((BitVec.ofNat 64 xi.toNat) <<< ((i % 8) * 8)))) (ex_xorL rfl rfl) ?_
    simp only [pS, pN, pA, pC, pZ]
    refine do_ rfl (.pointer (some ⟨n42, (i / 8), none⟩)) (ex_atA (i := (i / 8)) Tryd.underlying90 (sizeof_88 _) rfl rfl (by omega)) ?_
    simp only [pS, pN, pA, pC, pZ]
    refine stStore (i := 0) (v := laneV ((at0 (mixL Z rest i) (i / 8)) ^^^ ((BitVec.ofNat 64 xi.toNat) <<< ((i % 8) * 8)))) S77 rfl rfl rfl rfl (size_88) (allc1 rfl) (by rw [List.length_map, ((mix_len _ _ _).trans hZ)]; show (i / 8) + 1 ≤ 25; omega) (fun w80 S81 => ?_)
    simp only [pS, pN, pA, pC, pZ]
    have S81 : St w F w80 F37 [⟨n42, (splice ((mixL Z rest i).map laneV) (i / 8) [laneV ((at0 (mixL Z rest i) (i / 8)) ^^^ ((BitVec.ofNat 64 xi.toNat) <<< ((i % 8) * 8)))]), 90⟩] [] := S81
    rw [lanes_set (Nat.lt_of_lt_of_eq (show (i / 8) < 25 by omega) ((mix_len _ _ _).trans hZ).symm)] at S81
    rw [mix_step Z hxi] at S81
    refine wl_nil (hK69 _ _ ?_)
    refine region_wl ?_
    refine do_ rfl (.int .i64 (((i + 1) : Nat) : Int)) (ex_add (m := ((i : Nat) : Int)) (n := (1 : Int)) (r := (((i + 1) : Nat) : Int)) rfl rfl (by omega) (by omega) (by omega)) ?_
    simp only [pS, pN, pA, pC, pZ]
    refine do_ rfl (.int .i64 (((i + 1) : Nat) : Int)) (ex_move _) ?_
    simp only [pS, pN, pA, pC, pZ]
    refine wl_nil ?_
    exact hK66 _ _ _ (by omega) ⟨(i + 1), _, rfl, rfl, rfl, S81, (by omega)⟩
   ·refine do_ rfl (.bool false) (ex_lss (m := ((i : Nat) : Int)) (n := (136 : Int)) (b := false) rfl rfl (decide_eq_false (by omega))) ?_
    simp only [pS, pN, pA, pC, pZ]
    refine wl_nil (hK67 _ _ ?_)
    refine wp_seq_k (fun K82 hK82 => ?_)
    refine wp_cond_false rfl ?_
    refine wp_exit ?_
    refine hK57 _ _ ?_
    refine wp_seq_k (fun K83 hK83 => ?_)
    obtain rfl : i = 136 := by omega
    obtain ⟨Xm, hXm⟩ : ∃ X, X = mixL Z rest 136 := ⟨_, rfl⟩
    have hXl : Xm.length = 25 := by rw [hXm]; exact (mix_len _ _ _).trans hZ
    rw [← hXm] at S64
    refine region_wl ?_
    refine do_ rfl (.int .i64 0) (ex_move _) ?_
    simp only [pS, pN, pA, pC, pZ]
    refine wl_nil (hK83 _ _ ?_)
    refine wp_block ?_
    have S64 : St w F w63 F37 [⟨n42, ((stirsL Xm 0).map laneV), 90⟩] [] := by rw [stirs_zero]; exact S64
    refine wp_loop_g (fun mm aa w85 => ∃ (q : Nat) (u84 : Nat → Value), mm = 24 - q ∧ u84 = slots aa ∧ aa = ⟨#[(.slice x b.length y), undef, (.slice none 0 0), (.slice ra rn rc), (.pointer (some ⟨n42, 0, none⟩)), (u59 5), (u84 6), undef, undef, (.slice x b.length y), v4, (.slice (some ⟨n8, 0, none⟩) 1 1), v11, (.slice (some ⟨g31, 0, none⟩) (padK b (padN b)).length cap27), (.int .i64 (((padK b (padN b)).length : Nat) : Int)), (.int .i64 ((((padK b (padN b)).length % 136) : Nat) : Int)), (.bool false), (u16 17), (u16 18), (u16 19), (.slice (some ⟨g31, 0, none⟩) (padK b (padN b)).length cap27), (.slice (some ⟨g31, 0, none⟩) (padK b (padN b)).length cap27), (.int .i64 (((padK b (padN b)).length : Nat) : Int)), (.int .i64 ((((padK b (padN b)).length - 1) : Nat) : Int)), (.pointer (some ⟨g31, 0 + ((padK b (padN b)).length - 1) * 1, none⟩)), (bv xb), (bv (xb ||| 128)), (.pointer (some ⟨g31, 0 + ((padK b (padN b)).length - 1) * 1, none⟩)), (.slice ra rn rc), (.int .i64 ((rn : Nat) : Int)), (.bool true), (u46 31), (u46 32), (.int .i64 136), (.bool false), (u59 35), (u59 36), (u59 37), (u59 38), (u59 39), (u59 40), (u59 41), (u59 42), (u59 43), (u59 44), (u59 45), (u59 46), (u59 47), (u59 48), (u59 49), (u59 50), (u59 51), (.int .i64 ((q : Nat) : Int)), (u84 53), (u84 54), (u84 55), (u84 56), (u84 57), undef, undef, undef, undef, undef, undef, undef, undef, undef, undef, undef, undef, undef, undef, undef, undef, undef, undef, undef, undef], []⟩ ∧ St w F w85 F37 [⟨n42, ((stirsL Xm q).map laneV), 90⟩] [] ∧ (q ≤ 24)) _ ⟨0, _, rfl, rfl, rfl, S64, (by omega)⟩ ?_
    rintro m86 a87 w88 ⟨q, u84, rfl, -, rfl, S89, hq⟩ K91 hK91
    refine wp_seq_k (fun K92 hK92 => region_wl ?_)
    by_cases hc53 : q < 24
    ·refine do_ rfl (.bool true) (ex_lss (m := ((q : Nat) : Int)) (n := (24 : Int)) (b := true) rfl rfl (decide_eq_true (by omega))) ?_
     simp only [pS, pN, pA, pC, pZ]
     refine wl_nil (hK92 _ _ ?_)
     refine wp_seq_k (fun K93 hK93 => ?_)
     refine wp_cond_true rfl ?_
     refine wp_skip ?_
     refine hK93 _ _ ?_
     refine wp_seq_k (fun K94 hK94 => ?_)
     refine wp_block ?_
     refine wp_seq_k (fun K95 hK95 => region_wl ?_)
     refine do_ rfl (.int .i64 ((q : Nat) : Int)) (ex_move _) ?_
     simp only [pS, pN, pA, pC, pZ]
     refine do_ rfl (.int .i64 ((q : Nat) : Int)) (ex_assign _) ?_
     simp only [pS, pN, pA, pC, pZ]
     refine wl_nil (hK95 _ _ ?_)
     refine region_wl ?_
     refine do_ rfl (.int .i64 ((q : Nat) : Int)) (ex_move _) ?_
     simp only [pS, pN, pA, pC, pZ]
     refine stStir rfl (ex_fn (vs := #[(.pointer (some ⟨n42, 0, none⟩)), (.int .i64 ((q : Nat) : Int))]) (map2 rfl rfl) rfl (ent_53 _ _)) (stir_spec S89 (stirs_len hXl _) hT (by omega)) (fun w96 S97 => ?_)
     simp only [pS, pN, pA, pC, pZ]
     have S97 : St w F w96 F37 [⟨n42, ((stirL (stirsL Xm q) q).map laneV), 90⟩] [] := S97
     rw [stirs_step] at S97
     refine wl_nil (hK94 _ _ ?_)
     refine region_wl ?_
     refine do_ rfl (.int .i64 (((q + 1) : Nat) : Int)) (ex_add (m := ((q : Nat) : Int)) (n := (1 : Int)) (r := (((q + 1) : Nat) : Int)) rfl rfl (by omega) (by omega) (by omega)) ?_
     simp only [pS, pN, pA, pC, pZ]
     refine do_ rfl (.int .i64 (((q + 1) : Nat) : Int)) (ex_move _) ?_
     simp only [pS, pN, pA, pC, pZ]
     refine wl_nil ?_
     exact hK91 _ _ _ (by omega) ⟨(q + 1), _, rfl, rfl, rfl, S97, (by omega)⟩
    ·refine do_ rfl (.bool false) (ex_lss (m := ((q : Nat) : Int)) (n := (24 : Int)) (b := false) rfl rfl (decide_eq_false (by omega))) ?_
     simp only [pS, pN, pA, pC, pZ]
     refine wl_nil (hK92 _ _ ?_)
     refine wp_seq_k (fun K98 hK98 => ?_)
     refine wp_cond_false rfl ?_
     refine wp_exit ?_
     refine hK56 _ _ ?_
     obtain rfl : q = 24 := by omega
     refine region_wl ?_
     refine do_ rfl (.slice ra rn rc) (ex_move _) ?_
     simp only [pS, pN, pA, pC, pZ]
     have hcap : rest.length ≤ rc := by obtain ⟨_, _, e, q, _⟩ := hrest.shape; injection e with _ _ e; rw [e]; exact q
     have r99 : Bs _ (.slice (if rc = 136 then ra else ra.map (·.add (136 * 1))) (rn - 136) (rc - 136)) (rest.drop 136) := Bs.restD hrest (by omega)
     refine do_ rfl (.slice (if rc = 136 then ra else ra.map (·.add (136 * 1))) (rn - 136) (rc - 136)) (ex_slice (l := 136) (h := rn) (sz := 1) Tryd.underlying22 rfl (sizeof_5 _) (.inr ⟨_, rfl, rfl⟩) (.inl ⟨rfl, rfl⟩) (by omega) (by omega) (rfl)) ?_
     simp only [pS, pN, pA, pC, pZ]
     refine do_ rfl (.slice (if rc = 136 then ra else ra.map (·.add (136 * 1))) (rn - 136) (rc - 136)) (ex_assign _) ?_
     simp only [pS, pN, pA, pC, pZ]
     refine wl_nil ?_
     have hdl : (rest.drop 136).length = rest.length - 136 := by simp
     exact hK53 _ _ _ (by omega) ⟨(stirsL Xm 24), (if rc = 136 then ra else ra.map (·.add (136 * 1))), (rn - 136), (rc - 136), (rest.drop 136), _, rfl, rfl, rfl, S89, (stirs_len hXl 24), r99, (by omega), (by omega), (absorb_at hXm (by omega) hab)⟩
  ·refine do_ rfl (.bool false) (ex_gtr (m := ((rn : Nat) : Int)) (n := (0 : Int)) (b := false) rfl rfl (decide_eq_false (by omega))) ?_
   simp only [pS, pN, pA, pC, pZ]
   refine wl_nil (hK55 _ _ ?_)
   refine wp_cond_false rfl ?_
   refine wp_exit ?_
   refine hK45 _ _ ?_
   refine wp_seq_k (fun K100 hK100 => ?_)
   have hZa := absorb_end (by omega) hab
   refine region_wl ?_
   refine stMake (k := 1) (n := 32) (m := 32) S51 rfl i5 (.int .u8 0) 1 Tryd.underlying22 hi5 hz5 hs5 hb5 rfl rfl (by omega) (by omega) (by omega) ?_
   intro g101 w102 S103
   rw [made_bytes] at S103
   simp only [pS, pN, pA, pC, pZ]
   have S103 : St w F w102 F37 [⟨g101, ((List.replicate 32 (0 : UInt8)).map bv), 5⟩, ⟨n42, (Z.map laneV), 90⟩] [] := S103
   have S103 : St w F w102 F37 [⟨g101, ((outK Z 0).map bv), 5⟩, ⟨n42, (Z.map laneV), 90⟩] [] := by rw [outK_zero]; exact S103
   refine do_ rfl (.slice (some ⟨g101, 0, none⟩) 32 32) (ex_assign _) ?_
   simp only [pS, pN, pA, pC, pZ]
   refine wl_nil (hK100 _ _ ?_)
   refine wp_seq_k (fun K104 hK104 => ?_)
   refine wp_seq_k (fun K105 hK105 => region_wl ?_)
   refine do_ rfl (.slice (some ⟨g101, 0, none⟩) 32 32) (ex_move _) ?_
   simp only [pS, pN, pA, pC, pZ]
   refine do_ rfl (.int .i64 32) (ex_len Tryd.underlying22 rfl) ?_
   simp only [pS, pN, pA, pC, pZ]
   refine do_ rfl (.int .i64 0) (ex_move _) ?_
   simp only [pS, pN, pA, pC, pZ]
   refine wl_nil (hK105 _ _ ?_)
   refine wp_block ?_
   refine wp_loop_g (fun mm aa w107 => ∃ (j : Nat) (u106 : Nat → Value), mm = 32 - j ∧ u106 = slots aa ∧ aa = ⟨#[(.slice x b.length y), undef, (.slice none 0 0), (.slice ra rn rc), (.pointer (some ⟨n42, 0, none⟩)), (u46 5), (u46 6), (.slice (some ⟨g101, 0, none⟩) 32 32), (u106 8), (.slice x b.length y), v4, (.slice (some ⟨n8, 0, none⟩) 1 1), v11, (.slice (some ⟨g31, 0, none⟩) (padK b (padN b)).length cap27), (.int .i64 (((padK b (padN b)).length : Nat) : Int)), (.int .i64 ((((padK b (padN b)).length % 136) : Nat) : Int)), (.bool false), (u16 17), (u16 18), (u16 19), (.slice (some ⟨g31, 0, none⟩) (padK b (padN b)).length cap27), (.slice (some ⟨g31, 0, none⟩) (padK b (padN b)).length cap27), (.int .i64 (((padK b (padN b)).length : Nat) : Int)), (.int .i64 ((((padK b (padN b)).length - 1) : Nat) : Int)), (.pointer (some ⟨g31, 0 + ((padK b (padN b)).length - 1) * 1, none⟩)), (bv xb), (bv (xb ||| 128)), (.pointer (some ⟨g31, 0 + ((padK b (padN b)).length - 1) * 1, none⟩)), (.slice ra rn rc), (.int .i64 ((rn : Nat) : Int)), (.bool false), (u46 31), (u46 32), (u46 33), (u46 34), (u46 35), (u46 36), (u46 37), (u46 38), (u46 39), (u46 40), (u46 41), (u46 42), (u46 43), (u46 44), (u46 45), (u46 46), (u46 47), (u46 48), (u46 49), (u46 50), (u46 51), (u46 52), (u46 53), (u46 54), (u46 55), (u46 56), (u46 57), (.slice (some ⟨g101, 0, none⟩) 32 32), (.slice (some ⟨g101, 0, none⟩) 32 32), (.int .i64 32), (.int .i64 ((j : Nat) : Int)), (u106 62), (u106 63), (u106 64), (u106 65), (u106 66), (u106 67), (u106 68), (u106 69), (u106 70), (u106 71), (u106 72), (u106 73), (u106 74), (u106 75), (u106 76), undef], []⟩ ∧ St w F w107 F37 [⟨g101, ((outK Z j).map bv), 5⟩, ⟨n42, (Z.map laneV), 90⟩] [] ∧ (j ≤ 32)) _ ⟨0, _, rfl, rfl, rfl, S103, (by omega)⟩ ?_
   rintro m108 a109 w110 ⟨j, u106, rfl, -, rfl, S111, hj⟩ K113 hK113
   refine wp_seq_k (fun K114 hK114 => region_wl ?_)
   by_cases hc62 : j < 32
   ·refine do_ rfl (.bool true) (ex_lss (m := ((j : Nat) : Int)) (n := (32 : Int)) (b := true) rfl rfl (decide_eq_true (by omega))) ?_
    simp only [pS, pN, pA, pC, pZ]
    refine wl_nil (hK114 _ _ ?_)
    refine wp_seq_k (fun K115 hK115 => ?_)
    refine wp_cond_true rfl ?_
    refine wp_skip ?_
    refine hK115 _ _ ?_
    refine wp_seq_k (fun K116 hK116 => ?_)
    refine wp_block ?_
    refine wp_seq_k (fun K117 hK117 => region_wl ?_)
    refine do_ rfl (.int .i64 ((j : Nat) : Int)) (ex_move _) ?_
    simp only [pS, pN, pA, pC, pZ]
    refine do_ rfl (.int .i64 ((j : Nat) : Int)) (ex_assign _) ?_
    simp only [pS, pN, pA, pC, pZ]
    refine wl_nil (hK117 _ _ ?_)
    refine region_wl ?_
    refine do_ rfl (.slice (some ⟨g101, 0, none⟩) 32 32) (ex_move _) ?_
    simp only [pS, pN, pA, pC, pZ]
    refine do_ rfl (.int .i64 ((j : Nat) : Int)) (ex_move _) ?_
    simp only [pS, pN, pA, pC, pZ]
    refine do_ rfl (.int .i64 ((j : Nat) : Int)) (ex_move _) ?_
    simp only [pS, pN, pA, pC, pZ]
    refine do_ rfl (.int .i64 (((j / 8) : Nat) : Int)) (ex_quoA (m := j) (n := 8) rfl rfl (by decide) (by omega)) ?_
    simp only [pS, pN, pA, pC, pZ]
    refine do_ rfl (.pointer (some ⟨n42, (j / 8), none⟩)) (ex_atA (i := (j / 8)) Tryd.underlying90 (sizeof_88 _) rfl rfl (by omega)) ?_
    simp only [pS, pN, pA, pC, pZ]
    refine do_ rfl (laneV (at0 Z (j / 8))) (ex_load rfl (load1 (nagg_88 _) (St.cell S111 (i := 1) rfl (lanes_at (Nat.lt_of_lt_of_eq (show (j / 8) < 25 by omega) hZ.symm))))) ?_
    simp only [pS, pN, pA, pC, pZ]
    refine do_ rfl (.int .i64 ((j : Nat) : Int)) (ex_move _) ?_
    simp only [pS, pN, pA, pC, pZ]
    refine do_ rfl (.int .i64 (((j % 8) : Nat) : Int)) (ex_remA (m := j) (n := 8) rfl rfl (by decide) (by omega)) ?_
    simp only [pS, pN, pA, pC, pZ]
    refine do_ rfl (.int .i64 ((((j % 8) * 8) : Nat) : Int)) (ex_mul (m := (((j % 8) : Nat) : Int)) (n := (8 : Int)) (r := ((((j % 8) * 8) : Nat) : Int)) rfl rfl (by omega) (by omega) (by omega)) ?_
    simp only [pS, pN, pA, pC, pZ]
    refine do_ rfl (laneV ((at0 Z (j / 8)) >>> ((j % 8) * 8))) (ex_shrL (n := ((j % 8) * 8)) rfl rfl (by omega)) ?_
    simp only [pS, pN, pA, pC, pZ]
    refine do_ rfl (bv (UInt8.ofNat (((at0 Z (j / 8)) >>> ((j % 8) * 8)).toNat % 256))) (ex_convert (v := (laneV ((at0 Z (j / 8)) >>> ((j % 8) * 8)))) rfl (conv_low ((at0 Z (j / 8)) >>> ((j % 8) * 8)) _)) ?_
    simp only [pS, pN, pA, pC, pZ]
    refine do_ rfl (.pointer (some ⟨g101, 0 + j * 1, none⟩)) (ex_at (i := j) (sz := 1) Tryd.underlying22 (sizeof_5 _) rfl rfl rfl (by omega) rfl) ?_
    simp only [pS, pN, pA, pC, pZ]
    refine stStore (i := 0) (v := bv (UInt8.ofNat (((at0 Z (j / 8)) >>> ((j % 8) * 8)).toNat % 256))) S111 rfl rfl rfl rfl (size_5) (allc1 rfl) (by rw [List.length_map, outK_len]; show 0 + j * 1 + 1 ≤ 32; omega) (fun w118 S119 => ?_)
    simp only [pS, pN, pA, pC, pZ]
    have S119 : St w F w118 F37 [⟨g101, (splice ((outK Z j).map bv) (0 + j * 1) [bv (UInt8.ofNat (((at0 Z (j / 8)) >>> ((j % 8) * 8)).toNat % 256))]), 5⟩, ⟨n42, (Z.map laneV), 90⟩] [] := S119
    rw [Nat.zero_add, Nat.mul_one, bytes_set (by rw [outK_len]; omega)] at S119
    have S119 : St w F w118 F37 [⟨g101, (((outK Z j).set j (outAt Z j)).map bv), 5⟩, ⟨n42, (Z.map laneV), 90⟩] [] := S119
    rw [outK_step Z (by omega)] at S119
    refine wl_nil (hK116 _ _ ?_)
    refine region_wl ?_
    refine do_ rfl (.int .i64 (((j + 1) : Nat) : Int)) (ex_add (m := ((j : Nat) : Int)) (n := (1 : Int)) (r := (((j + 1) : Nat) : Int)) rfl rfl (by omega) (by omega) (by omega)) ?_
    simp only [pS, pN, pA, pC, pZ]
    refine do_ rfl (.int .i64 (((j + 1) : Nat) : Int)) (ex_move _) ?_
    simp only [pS, pN, pA, pC, pZ]
    refine wl_nil ?_
    exact hK113 _ _ _ (by omega) ⟨(j + 1), _, rfl, rfl, rfl, S119, (by omega)⟩
   ·refine do_ rfl (.bool false) (ex_lss (m := ((j : Nat) : Int)) (n := (32 : Int)) (b := false) rfl rfl (decide_eq_false (by omega))) ?_
    simp only [pS, pN, pA, pC, pZ]
    refine wl_nil (hK114 _ _ ?_)
    refine wp_seq_k (fun K120 hK120 => ?_)
    refine wp_cond_false rfl ?_
    refine wp_exit ?_
    refine hK104 _ _ ?_
    refine wp_seq_k (fun K121 hK121 => ?_)
    obtain rfl : j = 32 := by omega
    rw [outK_all] at S111
    refine region_wl ?_
    refine do_ rfl (.slice (some ⟨g101, 0, none⟩) 32 32) (ex_move _) ?_
    simp only [pS, pN, pA, pC, pZ]
    refine do_ rfl (.slice (some ⟨g101, 0, none⟩) 32 32) (ex_assign _) ?_
    simp only [pS, pN, pA, pC, pZ]
    refine wl_nil (hK121 _ _ ?_)
    refine wp_ret ?_
    (try simp only [Exit.then, Exit.inBlock, ↓reduceIte, Nat.reduceEqDiff])
    refine bodyPost_ret (v := (.slice (some ⟨g101, 0, none⟩) 32 32)) ?_ rfl ?_
    ·exact res_t rfl rfl
    ·have hB := St.blkRow (k := 1) (l := outL Z) (el := (outL Z).map fun b => [bv b]) (hR := ByC.mono) (cap := 32) S111 (by rw [bytes_flat, List.take_of_length_le (by rw [List.length_map, outL_len]; decide)]) (allR_bytes _ _) (by simp) (by rw [List.length_map, outL_len]) (by rw [outL_len]; decide) (by unfold maxLen; decide) (S111.blk _ (List.mem_cons_self ..)).2.2
     rw [outL_len] at hB
     refine ⟨_, _, rfl, hB.gr, ?_⟩
     have hO := St.own (i := 0) hB rfl
     unfold sumL
     rw [← hZa]
     exact hO
 ·refine do_ rfl (.bool true) (ex_neq (m := ((((padK b k).length % 136) : Nat) : Int)) (n := (0 : Int)) (b := true) rfl rfl (bne_iff_ne.2 (by omega))) ?_
  simp only [pS, pN, pA, pC, pZ]
  refine wl_nil (hK25 _ _ ?_)
  refine wp_cond_true rfl ?_
  refine wp_skip ?_
  refine hK24 _ _ ?_
  refine wp_block ?_
  refine region_wl ?_
  refine do_ rfl (.slice a26 (padK b k).length cap27) (ex_move _) ?_
  simp only [pS, pN, pA, pC, pZ]
  refine stNew S21 (v := fun n => .slice (some ⟨n, 0, none⟩) 1 1) rfl (ex_lit (ps := #[(0, (.int .u8 0))]) (cells := #[(.int .u8 0)]) (E := 5) (bmap1 rfl) (fun w => by kernel_rfl)) (fun n122 w123 S124 => ?_)
  simp only [pS, pN, pA, pC, pZ]
  have S124 : St w F w123 F [⟨n122, [(.int .u8 0)], 5⟩] [ownP 1 ByC ByC.mono 5 w.heap.size (.slice a26 (padK b k).length cap27) (padK b k)] := S124
  refine stPush (i := 0) (r := 0) (p := (0 : UInt8)) (cs := [(.int .u8 0)]) S124 rfl i5 (.int .u8 0) 1 Tryd.underlying22 hi5 hz5 hs5 hb5 rfl (by decide) rfl rfl rfl rfl rfl (bv_one 0) (rfl) (Nat.le_refl _) S124.gr.below.size (by unfold maxLen; omega) (by omega) ?_
  intro v125 w126 S127 hn128
  simp only [pS, pN, pA, pC, pZ]
  have S127 := St.drop S127 (L' := []) (.cons _ (List.Sublist.refl _))
  have S127 : St w F w126 F [] [ownP 1 ByC ByC.mono 5 w.heap.size v125 ((padK b k) ++ [(0 : UInt8)])] := S127
  refine do_ rfl v125 (ex_assign _) ?_
  simp only [pS, pN, pA, pC, pZ]
  refine wl_nil ?_
  rw [padK_step] at S127
  have hk2 : k + 1 ≤ padN b := by unfold padN at *; omega
  exact hK23 _ _ _ (by omega) ⟨(k + 1), v125, _, rfl, rfl, rfl, S127, hk2⟩
theorem sum_spec (F : Fz) (w : World) (v : Value) (b : By) (hs : Sat w F) (hT : Tabs w) (hb : Bs F v b) (hn : b.length ≤ 100000) :
    Calls Tryd.prog 36 #[v] w (Gives w F fun F' u => Bs F' u (sumL b)) :=
  (gives_of_own ByC.mono (sum_own F w v b hs hT hb hn)).mono fun e w' ⟨u, F', he, g, hu⟩ => ⟨u, F', he, g, bs_of_sl hu⟩
end Go.Proofs.YtcanckliggcllaaDoor
