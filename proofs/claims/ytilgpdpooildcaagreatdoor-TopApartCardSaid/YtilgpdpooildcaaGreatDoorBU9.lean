/- Rules, plain laws and walks: WQ1 WQ2 WQ3 WQ4 B3 TD P15 -/
import Derived.Test.YtilgpdpooildcaaGreatDoorBU5
import Derived.Test.YtilgpdpooildcaaGreatDoorBU8
import Derived.Test.YtilgpdpooildcaaGreatDoorBU2
import Derived.Test.YtilgpdpooildcaaGreatDoorBU3
import Derived.Test.YtilgpdpooildcaaGreatDoorBU1
import Derived.Test.YtilgpdpooildcaaGreatDoorBU6
import Derived.Test.YtilgpdpooildcaaGreatDoorBU7
import Derived.Test.YtilgpdpooildcaaGreatDoorBU4
namespace Go.Proofs.YtilgpdpooildcaaGreatDoor
set_option maxHeartbeats 8000000
open Go.RowKit
set_option maxRecDepth 100000
set_option linter.unusedVariables false
set_option linter.unusedSimpArgs false
theorem has_at {w : World} (h : Has w) {k : Nat} (hk : 1 ≤ k ∧ k ≤ 8) : w.cell? ⟨0, k, none⟩ = some (.int .i64 ((hasN k : Nat) : Int)) := by
 have := h k (by simp [hasL]; omega)
 rw [this]
 rcases (by omega : k = 1 ∨ k = 2 ∨ k = 3 ∨ k = 4 ∨ k = 5 ∨ k = 6 ∨ k = 7 ∨ k = 8) with rfl | rfl | rfl | rfl | rfl | rfl | rfl | rfl <;> rfl
theorem bit_yes {h i : Nat} (e : h.testBit i = true) : h / 2 ^ i % 2 = 1 := by
 rw [Nat.testBit_eq_decide_div_mod_eq] at e
 exact of_decide_eq_true e
theorem bit_no {h i : Nat} (e : h.testBit i = false) : h / 2 ^ i % 2 = 0 := by
 rw [Nat.testBit_eq_decide_div_mod_eq] at e
 have := of_decide_eq_false e
 omega
theorem ex_indexV {P : Program} {ρ : Operand → Value} {w : World} {d : Option Tmp} {t X E : TypeId} {n : Nat} {pos : String} {after : Array Edge} {guard : Option (Nat × Bool)} {x y : Operand} {cs : Array Value} {i : Nat} {v : Value} (hX : P.underlying X = some (.array n E)) (hs : (sizeOf E).run P w = .ok 1 w) (hx : ρ x = .agg cs) (hy : ρ y = .int .i64 i) (hi : i < n) (hb : (isAgg E).run P w = .ok false w) (hv : cs[i]? = some v) :
    (execOp ρ ⟨d, .index X x y, t, pos, after, guard⟩).run P w = .ok (.value v) w := by
 have h1 : (0 : Int) ≤ (i : Int) ∧ (i : Int) < (n : Int) := by omega
 simp [execOp, hx, hy, Instr.index, part, Sem.run_bind, run_underlying hX w, asIntOf, hs, h1, hb, hv, hi]
theorem ex_atArr {P : Program} {ρ : Operand → Value} {w : World} {d : Option Tmp} {t X E : TypeId} {n : Nat} {pos : String} {after : Array Edge} {guard : Option (Nat × Bool)} {x y : Operand} {b i : Nat} (hX : P.underlying X = some (.array n E)) (hs : (sizeOf E).run P w = .ok 1 w) (hx : ρ x = .pointer (some ⟨b, 0, none⟩)) (hy : ρ y = .int .i64 i) (hi : i < n) :
    (execOp ρ ⟨d, .indexAddr X x y, t, pos, after, guard⟩).run P w = .ok (.value (.pointer (some ⟨b, i, none⟩))) w := by
 have hadd : (⟨b, 0, none⟩ : Addr).add (i * 1) = ⟨b, i, none⟩ := by rw [Addr.add_mid]; simp
 have hlt : (0 : Int) ≤ (i : Int) ∧ (i : Int) < (n : Int) := by omega
 have hlt' : ¬ ((i : Int) < 0 ∨ (n : Int) ≤ (i : Int)) := by omega
 simp only [Nat.mul_one] at hadd
 simp [execOp, hx, hy, Instr.indexAt, Instr.sureAddr, asIntOf, Sem.run_bind, Sem.run_pure, Result.andThen_ok, run_underlying hX w, hs, hadd, hlt, hi]
theorem ex_shrI {P : Program} {ρ : Operand → Value} {w : World} {d : Option Tmp} {t X Y : TypeId} {x y : Operand} {pos : String} {after : Array Edge} {guard : Option (Nat × Bool)} {m n : Nat} (hx : ρ x = .int .i64 (m : Int)) (hy : ρ y = .int .i64 (n : Int)) (hn : n ≤ 64) : (execOp ρ ⟨d, .binOp .shr X x y Y, t, pos, after, guard⟩).run P w = .ok (.value (.int .i64 ((m / 2 ^ n : Nat) : Int))) w := by
 have e : (eqGuard .shr X x y (.int .i64 (m : Int)) (.int .i64 (n : Int))).run P w = .ok () w := rfl
 have h : (binOp .shr X (.int .i64 (m : Int)) (.int .i64 (n : Int))).run P w = .ok (.int .i64 ((m / 2 ^ n : Nat) : Int)) w := by
  show (Op.shift .shr .i64 (m : Int) .i64 (n : Int)).run P w = _
  unfold Op.shift
  rw [if_neg (by omega)]
  show Result.ok (Value.int .i64 (Int.fdiv (m : Int) (2 ^ (min (n : Int).toNat 64)))) w = _
  rw [Int.toNat_natCast, Nat.min_eq_left hn, Int.fdiv_eq_ediv_of_nonneg _ (show (0 : Int) ≤ 2 ^ n from Int.le_of_lt (Int.pow_pos (by decide)))]
  simp
 simp only [execOp, hx, hy, Sem.run_bind, e, Result.andThen_ok, h, Sem.run_pure]
theorem ex_andOne {P : Program} {ρ : Operand → Value} {w : World} {d : Option Tmp} {t X Y : TypeId} {x y : Operand} {pos : String} {after : Array Edge} {guard : Option (Nat × Bool)} {m : Nat} (hx : ρ x = .int .i64 (m : Int)) (hy : ρ y = .int .i64 1) : (execOp ρ ⟨d, .binOp .and X x y Y, t, pos, after, guard⟩).run P w = .ok (.value (.int .i64 ((m % 2 : Nat) : Int))) w := by
 refine ex_bin hx hy ?_
 rw [run_binInt _ (by simp)]
 show Result.ok (Value.int .i64 (IntKind.i64.wrap ((BitVec.ofInt 64 (m : Int) &&& BitVec.ofInt 64 (1 : Int)).toNat : Int))) w = _
 have h1 : (BitVec.ofInt 64 (m : Int) &&& BitVec.ofInt 64 (1 : Int)).toNat = m % 2 := by
  rw [BitVec.toNat_and, BitVec.ofInt_natCast, show BitVec.ofInt 64 (1 : Int) = 1#64 from rfl, BitVec.toNat_ofNat, show (1#64).toNat = 1 from rfl, Nat.and_one_is_mod]
  omega
 rw [h1, wrap64_in (by omega) (by omega)]
theorem wireCheckOk_spec (F : Fz) (w : World) (v : Value) (k : Nat) (r : Rq) (hh : Has w) (hv : ReqV F v k r.name r.key r.last r.value) (ok : RqOk k r) :
    Calls Tryz.prog 41 #[v] w (Tells w (.int .i64 0)) := by
 have := wireCheck_spec F w v k r.name r.key r.last r.value ok.kind.1 ok.kind.2 hh hv
 rwa [ok.fits] at this
def EncQ (b : By) (F : Fz) (u : Value) : Prop := ∃ x, u = .tuple #[x, .int .i64 0] ∧ Bs F x b
theorem encPre_len {k : Nat} {r : Rq} (ok : RqOk k r) : ∀ i, i ≤ 4 → (encPre (hasN k) r i).length ≤ 33 * i := by
 obtain ⟨a1, a2, a3, a4⟩ := ok.lens
 intro i hi
 have h : ∀ j, j < 4 → (r.part j).length ≤ 32 := fun j hj => by
  rcases (by omega : j = 0 ∨ j = 1 ∨ j = 2 ∨ j = 3) with rfl | rfl | rfl | rfl
  ·exact Nat.le_trans a1 (by omega)
  ·exact Nat.le_trans a2 (by omega)
  ·exact Nat.le_trans a3 (by omega)
  ·exact a4
 clear a1 a2 a3 a4
 induction i with
 | zero => simp [encPre]
 | succ i ih =>
  have := ih (by omega)
  have := h i (by omega)
  have := optE_len ((hasN k).testBit i) (r.part i)
  simp only [encPre, List.length_append]
  omega
theorem wireEncode_spec (F : Fz) (w : World) (v : Value) (k : Nat) (r : Rq) (hs : Sat w F) (hh : Has w) (hv : ReqV F v k r.name r.key r.last r.value) (ok : RqOk k r) :
    Calls Tryz.prog 31 #[v] w (Gives w F (EncQ (encQ k r))) := by
 have hk := ok.kind
 obtain ⟨a1, a2, a3, a4⟩ := ok.lens
 obtain ⟨_, _, _, _, rfl, h0, h1, h2, h3⟩ := hv
 obtain ⟨x0, y0, rfl, _⟩ := h0.shape
 obtain ⟨x1, y1, rfl, _⟩ := h1.shape
 obtain ⟨x2, y2, rfl, _⟩ := h2.shape
 obtain ⟨x3, y3, rfl, _⟩ := h3.shape
 obtain ⟨i5, hi5, hz5, hs5, hb5⟩ := info_parts infoU8
 have S := St.start hs
 go_enter Tryz.func31, Tryz.ntmps31
 refine sk fun K1 hK1 => ?_
 refine stNew S (v := fun n => .pointer (aA n 0)) rfl (ex_box (v := (.agg #[(nI k), (.slice x0 r.name.length y0), (.slice x1 r.key.length y1), (.slice x2 r.last.length y2), (.slice x3 r.value.length y3)])) rfl) (fun n2 w3 S4 => ?_)
 iterate 2 refine dy ?_
 refine wn hK1 ?_
 refine wp_seq_k (fun K5 hK5 => ?_)
 refine sk fun K6 hK6 => ?_
 refine dR S4 0 Tryz.underlying27 (size_27) ?_
 simp only [pq]
 refine stTells (v := (iI 0)) S4 rfl (fn1 (ent_41 _ _)) (wireCheckOk_spec _ _ _ k r (hh.below S4.gr.below) ⟨_, _, _, _, rfl, h0, h1, h2, h3⟩ ok) (fun w7 S8 => ?_)
 refine dy ?_
 refine wn hK6 ?_
 refine sk fun K9 hK9 => ?_
 refine dx ?_
 refine dr bF (ex_neq (m := (0 : Int)) (n := (0 : Int)) (b := false) rfl rfl (bne_eq_false_iff_eq.2 (rfl))) ?_
 simp only [pq]
 refine wn hK9 ?_
 refine wp_cond_false rfl ?_
 refine wp_skip ?_
 refine hK5 _ _ ?_
 refine sk fun K10 hK10 => ?_
 refine df (fa_27_0 _ _) ?_
 refine dl (nagg_3 _) S8 0 ?_
 refine dr (bv (b8 k)) (ex_convert (v := (nI k)) rfl (conv_b8 k _)) ?_
 simp only [pq]
 refine stNew S8 (v := fun n => .slice (aA n 0) 1 1) rfl (ex_lit (ps := #[(0, (bv (b8 k)))]) (cells := #[(bv (b8 k))]) (E := 5) (bmap1 rfl) (fun w => by kernel_rfl)) (fun n11 w12 S13 => ?_)
 refine dy ?_
 refine wn hK10 ?_
 refine wp_seq_k (fun K14 hK14 => ?_)
 refine sk fun K15 hK15 => ?_
 refine df (fa_27_1 _ _) ?_
 refine dl (nagg_25 _) S13 1 ?_
 refine df (fa_27_2 _ _) ?_
 simp only [pq]
 refine dl (nagg_25 _) S13 1 ?_
 refine df (fa_27_3 _ _) ?_
 refine dl (nagg_25 _) S13 1 ?_
 simp only [pq]
 refine df (fa_27_4 _ _) ?_
 refine dl (nagg_25 _) S13 1 ?_
 refine dr (.agg #[(.slice x0 r.name.length y0), (.slice x1 r.key.length y1), (.slice x2 r.last.length y2), (.slice x3 r.value.length y3)]) (ex_build (bmap4 rfl rfl rfl rfl) (by kernel_rfl)) ?_
 simp only [pq]
 refine dx ?_
 refine wn hK15 ?_
 refine wp_block ?_
 have S16 : St w F w12 F [⟨n2, [(nI k), (.slice x0 r.name.length y0), (.slice x1 r.key.length y1), (.slice x2 r.last.length y2), (.slice x3 r.value.length y3)], 27⟩] [ownP 1 ByC ByC.mono 5 w.heap.size (.slice (aA n11 0) 1 1) [b8 k]] := St.blkRow (k := 1) (l := [b8 k]) (el := [[(bv (b8 k))]]) (hR := ByC.mono) S13 rfl ⟨rfl, trivial⟩ (by simp) rfl (by simp) (by unfold maxLen; decide) (S13.blk _ (List.mem_cons_self ..)).2.2
 refine wp_loop_g (fun mm aa w19 => ∃ (i : Nat) (v : Value) (F17 : Fz) (u18 : Nat → Value), mm = 4 - i ∧ u18 = slots aa ∧ aa = ⟨#[(.agg #[(nI k), (.slice x0 r.name.length y0), (.slice x1 r.key.length y1), (.slice x2 r.last.length y2), (.slice x3 r.value.length y3)]), (pP n2 0), Zn, (iI 0), (iI 0), v, (u18 6), (u18 7), (.agg #[(nI k), (.slice x0 r.name.length y0), (.slice x1 r.key.length y1), (.slice x2 r.last.length y2), (.slice x3 r.value.length y3)]), (iI 0), (iI 0), bF, undef, (pP n2 0), (nI k), (bv (b8 k)), (.slice (aA n11 0) 1 1), (pP n2 1), (.slice x0 r.name.length y0), (pP n2 2), (.slice x1 r.key.length y1), (pP n2 3), (.slice x2 r.last.length y2), (pP n2 4), (.slice x3 r.value.length y3), (.agg #[(.slice x0 r.name.length y0), (.slice x1 r.key.length y1), (.slice x2 r.last.length y2), (.slice x3 r.value.length y3)]), (nI i), (u18 27), (u18 28), (u18 29), (u18 30), (u18 31), (u18 32), (u18 33), (u18 34), (u18 35), (u18 36), (u18 37), (u18 38), (u18 39), (u18 40), (u18 41), (u18 42), (u18 43), (u18 44), (u18 45), (u18 46), undef], []⟩ ∧ St w F w19 F17 [⟨n2, [(nI k), (.slice x0 r.name.length y0), (.slice x1 r.key.length y1), (.slice x2 r.last.length y2), (.slice x3 r.value.length y3)], 27⟩] [ownP 1 ByC ByC.mono 5 w.heap.size v (b8 k :: encPre (hasN k) r i)] ∧ Le F F17 ∧ (i ≤ 4)) _ ⟨0, (.slice (aA n11 0) 1 1), F, _, rfl, rfl, rfl, S16, Le.refl _, (by omega)⟩ ?_
 rintro m20 a21 w22 ⟨i, v, F17, u18, rfl, -, rfl, S23, le24, hi4⟩ K25 hK25
 refine sk fun K26 hK26 => ?_
 by_cases hc27 : i < 4
 ·refine lssT ?_
  refine wn hK26 ?_
  refine wp_seq_k (fun K27 hK27 => ?_)
  refine wp_cond_true rfl ?_
  refine wp_skip ?_
  refine hK27 _ _ ?_
  refine wp_seq_k (fun K28 hK28 => ?_)
  refine wp_block ?_
  refine wp_seq_k (fun K29 hK29 => ?_)
  rcases (by omega : i = 0 ∨ i = 1 ∨ i = 2 ∨ i = 3) with h4 | h4 | h4 | h4
  ·by_cases he : (hasN k).testBit i = true
   ·have hx := bit_yes he
    have hpl := encPre_len ok i (by omega)
    refine region_wl ?_
    refine dx ?_
    refine dr (.slice x0 r.name.length y0) (ex_indexV (i := i) Tryz.underlying91 (sizeof_25 _) rfl rfl (by omega) (nagg_25 _) (by rw [h4]; rfl)) ?_
    refine dy ?_
    simp only [pq]
    refine dy ?_
    refine wl_nil (hK29 _ _ ?_)
    refine sk fun K30 hK30 => ?_
    refine df (fa_27_0 _ _) ?_
    refine dl (nagg_3 _) S23 0 ?_
    refine dr (pP 0 k) (ex_atArr (i := k) Tryz.underlying92 (sizeof_3 _) rfl rfl (by omega)) ?_
    simp only [pq]
    refine dr _ (ex_load rfl (load1 (nagg_3 _) (has_at (hh.below S23.gr.below) hk))) ?_
    refine dx ?_
    refine dr (nI ((hasN k) / 2 ^ i)) (ex_shrI (m := (hasN k)) (n := i) rfl rfl (by omega)) ?_
    simp only [pq]
    refine dr (.int .i64 (((((hasN k) / 2 ^ i) % 2) : Nat) : Int)) (ex_andOne (m := ((hasN k) / 2 ^ i)) rfl rfl) ?_
    refine dr bT (ex_eql (m := (((((hasN k) / 2 ^ i) % 2) : Nat) : Int)) (n := (1 : Int)) (b := true) rfl rfl (beq_iff_eq.2 (by rw [hx]; rfl))) ?_
    refine wn hK30 ?_
    refine wp_cond_true rfl ?_
    refine region_wl ?_
    iterate 2 refine dx ?_
    refine dn Tryz.underlying25 ?_
    simp only [pq]
    refine dr (bv (b8 r.name.length)) (ex_convert (v := (nI r.name.length)) rfl (conv_b8 r.name.length _)) ?_
    refine stNew S23 (v := fun n => .slice (aA n 0) 1 1) rfl (ex_lit (ps := #[(0, (bv (b8 r.name.length)))]) (cells := #[(bv (b8 r.name.length))]) (E := 5) (bmap1 rfl) (fun w => by kernel_rfl)) (fun n31 w32 S33 => ?_)
    refine stPush (i := 0) (r := 0) (p := (b8 r.name.length)) (cs := [(bv (b8 r.name.length))]) S33 rfl i5 (.int .u8 0) 1 Tryz.underlying25 hi5 hz5 hs5 hb5 rfl (by decide) rfl rfl rfl rfl rfl (bv_one (b8 r.name.length)) (rfl) (Nat.le_refl _) S33.gr.below.size (by unfold maxLen; simp only [List.length_cons, List.length_append]; omega) (by simp only [List.length_cons, List.length_append]; omega) ?_
    intro v34 w35 S36 hn37
    simp only [pq]
    have S36 := St.drop S36 (.cons _ (List.Sublist.refl _))
    refine dx ?_
    refine stAppendS (r := 0) (u := (.slice x0 r.name.length y0)) S36 rfl i5 (.int .u8 0) 1 Tryz.underlying25 hi5 hz5 hs5 hb5 rfl (by decide) rfl rfl rfl (Sl.toW (Bs.sl (h0.mono le24)) (S36).sat) ByC.one (Nat.le_refl _) S36.gr.below.size (by unfold maxLen; simp only [List.length_cons, List.length_append, List.length_nil]; omega) (by simp only [List.length_cons, List.length_append, List.length_nil]; omega) ?_
    intro v38 w39 S40 hn41
    refine dy ?_
    refine wl_nil (hK28 _ _ ?_)
    rw [show (((b8 k :: encPre (hasN k) r i) ++ [(b8 r.name.length)]) ++ r.name) = b8 k :: encPre (hasN k) r (i + 1) from by rw [encPre_yes r he, h4]; simp [Rq.part]] at S40
    refine region_wl ?_
    refine dAdd (i + 1) ?_
    refine dx ?_
    simp only [pq]
    refine wl_nil ?_
    exact hK25 _ _ _ (by omega) ⟨(i + 1), v38, F17, _, rfl, rfl, rfl, S40, le24, (by omega)⟩
   ·have he : (hasN k).testBit i = false := by simpa using he
    have hx := bit_no he
    have hpl := encPre_len ok i (by omega)
    refine region_wl ?_
    refine dx ?_
    refine dr (.slice x0 r.name.length y0) (ex_indexV (i := i) Tryz.underlying91 (sizeof_25 _) rfl rfl (by omega) (nagg_25 _) (by rw [h4]; rfl)) ?_
    refine dy ?_
    simp only [pq]
    refine dy ?_
    refine wl_nil (hK29 _ _ ?_)
    refine sk fun K42 hK42 => ?_
    refine df (fa_27_0 _ _) ?_
    refine dl (nagg_3 _) S23 0 ?_
    refine dr (pP 0 k) (ex_atArr (i := k) Tryz.underlying92 (sizeof_3 _) rfl rfl (by omega)) ?_
    simp only [pq]
    refine dr _ (ex_load rfl (load1 (nagg_3 _) (has_at (hh.below S23.gr.below) hk))) ?_
    refine dx ?_
    refine dr (nI ((hasN k) / 2 ^ i)) (ex_shrI (m := (hasN k)) (n := i) rfl rfl (by omega)) ?_
    simp only [pq]
    refine dr (.int .i64 (((((hasN k) / 2 ^ i) % 2) : Nat) : Int)) (ex_andOne (m := ((hasN k) / 2 ^ i)) rfl rfl) ?_
    refine dr bF (ex_eql (m := (((((hasN k) / 2 ^ i) % 2) : Nat) : Int)) (n := (1 : Int)) (b := false) rfl rfl (beq_eq_false_iff_ne.2 (by rw [hx]; decide))) ?_
    refine wn hK42 ?_
    refine wp_cond_false rfl ?_
    refine wp_skip ?_
    refine hK28 _ _ ?_
    rw [← encPre_no r he] at S23
    refine region_wl ?_
    refine dAdd (i + 1) ?_
    refine dx ?_
    simp only [pq]
    refine wl_nil ?_
    exact hK25 _ _ _ (by omega) ⟨(i + 1), v, F17, _, rfl, rfl, rfl, S23, le24, (by omega)⟩
  ·by_cases he : (hasN k).testBit i = true
   ·have hx := bit_yes he
    have hpl := encPre_len ok i (by omega)
    refine region_wl ?_
    refine dx ?_
    refine dr (.slice x1 r.key.length y1) (ex_indexV (i := i) Tryz.underlying91 (sizeof_25 _) rfl rfl (by omega) (nagg_25 _) (by rw [h4]; rfl)) ?_
    refine dy ?_
    simp only [pq]
    refine dy ?_
    refine wl_nil (hK29 _ _ ?_)
    refine sk fun K43 hK43 => ?_
    refine df (fa_27_0 _ _) ?_
    refine dl (nagg_3 _) S23 0 ?_
    refine dr (pP 0 k) (ex_atArr (i := k) Tryz.underlying92 (sizeof_3 _) rfl rfl (by omega)) ?_
    simp only [pq]
    refine dr _ (ex_load rfl (load1 (nagg_3 _) (has_at (hh.below S23.gr.below) hk))) ?_
    refine dx ?_
    refine dr (nI ((hasN k) / 2 ^ i)) (ex_shrI (m := (hasN k)) (n := i) rfl rfl (by omega)) ?_
    simp only [pq]
    refine dr (.int .i64 (((((hasN k) / 2 ^ i) % 2) : Nat) : Int)) (ex_andOne (m := ((hasN k) / 2 ^ i)) rfl rfl) ?_
    refine dr bT (ex_eql (m := (((((hasN k) / 2 ^ i) % 2) : Nat) : Int)) (n := (1 : Int)) (b := true) rfl rfl (beq_iff_eq.2 (by rw [hx]; rfl))) ?_
    refine wn hK43 ?_
    refine wp_cond_true rfl ?_
    refine region_wl ?_
    iterate 2 refine dx ?_
    refine dn Tryz.underlying25 ?_
    simp only [pq]
    refine dr (bv (b8 r.key.length)) (ex_convert (v := (nI r.key.length)) rfl (conv_b8 r.key.length _)) ?_
    refine stNew S23 (v := fun n => .slice (aA n 0) 1 1) rfl (ex_lit (ps := #[(0, (bv (b8 r.key.length)))]) (cells := #[(bv (b8 r.key.length))]) (E := 5) (bmap1 rfl) (fun w => by kernel_rfl)) (fun n44 w45 S46 => ?_)
    refine stPush (i := 0) (r := 0) (p := (b8 r.key.length)) (cs := [(bv (b8 r.key.length))]) S46 rfl i5 (.int .u8 0) 1 Tryz.underlying25 hi5 hz5 hs5 hb5 rfl (by decide) rfl rfl rfl rfl rfl (bv_one (b8 r.key.length)) (rfl) (Nat.le_refl _) S46.gr.below.size (by unfold maxLen; simp only [List.length_cons, List.length_append]; omega) (by simp only [List.length_cons, List.length_append]; omega) ?_
    intro v47 w48 S49 hn50
    simp only [pq]
    have S49 := St.drop S49 (.cons _ (List.Sublist.refl _))
    refine dx ?_
    refine stAppendS (r := 0) (u := (.slice x1 r.key.length y1)) S49 rfl i5 (.int .u8 0) 1 Tryz.underlying25 hi5 hz5 hs5 hb5 rfl (by decide) rfl rfl rfl (Sl.toW (Bs.sl (h1.mono le24)) (S49).sat) ByC.one (Nat.le_refl _) S49.gr.below.size (by unfold maxLen; simp only [List.length_cons, List.length_append, List.length_nil]; omega) (by simp only [List.length_cons, List.length_append, List.length_nil]; omega) ?_
    intro v51 w52 S53 hn54
    refine dy ?_
    refine wl_nil (hK28 _ _ ?_)
    rw [show (((b8 k :: encPre (hasN k) r i) ++ [(b8 r.key.length)]) ++ r.key) = b8 k :: encPre (hasN k) r (i + 1) from by rw [encPre_yes r he, h4]; simp [Rq.part]] at S53
    refine region_wl ?_
    refine dAdd (i + 1) ?_
    refine dx ?_
    simp only [pq]
    refine wl_nil ?_
    exact hK25 _ _ _ (by omega) ⟨(i + 1), v51, F17, _, rfl, rfl, rfl, S53, le24, (by omega)⟩
   ·have he : (hasN k).testBit i = false := by simpa using he
    have hx := bit_no he
    have hpl := encPre_len ok i (by omega)
    refine region_wl ?_
    refine dx ?_
    refine dr (.slice x1 r.key.length y1) (ex_indexV (i := i) Tryz.underlying91 (sizeof_25 _) rfl rfl (by omega) (nagg_25 _) (by rw [h4]; rfl)) ?_
    refine dy ?_
    simp only [pq]
    refine dy ?_
    refine wl_nil (hK29 _ _ ?_)
    refine sk fun K55 hK55 => ?_
    refine df (fa_27_0 _ _) ?_
    refine dl (nagg_3 _) S23 0 ?_
    refine dr (pP 0 k) (ex_atArr (i := k) Tryz.underlying92 (sizeof_3 _) rfl rfl (by omega)) ?_
    simp only [pq]
    refine dr _ (ex_load rfl (load1 (nagg_3 _) (has_at (hh.below S23.gr.below) hk))) ?_
    refine dx ?_
    refine dr (nI ((hasN k) / 2 ^ i)) (ex_shrI (m := (hasN k)) (n := i) rfl rfl (by omega)) ?_
    simp only [pq]
    refine dr (.int .i64 (((((hasN k) / 2 ^ i) % 2) : Nat) : Int)) (ex_andOne (m := ((hasN k) / 2 ^ i)) rfl rfl) ?_
    refine dr bF (ex_eql (m := (((((hasN k) / 2 ^ i) % 2) : Nat) : Int)) (n := (1 : Int)) (b := false) rfl rfl (beq_eq_false_iff_ne.2 (by rw [hx]; decide))) ?_
    refine wn hK55 ?_
    refine wp_cond_false rfl ?_
    refine wp_skip ?_
    refine hK28 _ _ ?_
    rw [← encPre_no r he] at S23
    refine region_wl ?_
    refine dAdd (i + 1) ?_
    refine dx ?_
    simp only [pq]
    refine wl_nil ?_
    exact hK25 _ _ _ (by omega) ⟨(i + 1), v, F17, _, rfl, rfl, rfl, S23, le24, (by omega)⟩
  ·by_cases he : (hasN k).testBit i = true
   ·have hx := bit_yes he
    have hpl := encPre_len ok i (by omega)
    refine region_wl ?_
    refine dx ?_
    refine dr (.slice x2 r.last.length y2) (ex_indexV (i := i) Tryz.underlying91 (sizeof_25 _) rfl rfl (by omega) (nagg_25 _) (by rw [h4]; rfl)) ?_
    refine dy ?_
    simp only [pq]
    refine dy ?_
    refine wl_nil (hK29 _ _ ?_)
    refine sk fun K56 hK56 => ?_
    refine df (fa_27_0 _ _) ?_
    refine dl (nagg_3 _) S23 0 ?_
    refine dr (pP 0 k) (ex_atArr (i := k) Tryz.underlying92 (sizeof_3 _) rfl rfl (by omega)) ?_
    simp only [pq]
    refine dr _ (ex_load rfl (load1 (nagg_3 _) (has_at (hh.below S23.gr.below) hk))) ?_
    refine dx ?_
    refine dr (nI ((hasN k) / 2 ^ i)) (ex_shrI (m := (hasN k)) (n := i) rfl rfl (by omega)) ?_
    simp only [pq]
    refine dr (.int .i64 (((((hasN k) / 2 ^ i) % 2) : Nat) : Int)) (ex_andOne (m := ((hasN k) / 2 ^ i)) rfl rfl) ?_
    refine dr bT (ex_eql (m := (((((hasN k) / 2 ^ i) % 2) : Nat) : Int)) (n := (1 : Int)) (b := true) rfl rfl (beq_iff_eq.2 (by rw [hx]; rfl))) ?_
    refine wn hK56 ?_
    refine wp_cond_true rfl ?_
    refine region_wl ?_
    iterate 2 refine dx ?_
    refine dn Tryz.underlying25 ?_
    simp only [pq]
    refine dr (bv (b8 r.last.length)) (ex_convert (v := (nI r.last.length)) rfl (conv_b8 r.last.length _)) ?_
    refine stNew S23 (v := fun n => .slice (aA n 0) 1 1) rfl (ex_lit (ps := #[(0, (bv (b8 r.last.length)))]) (cells := #[(bv (b8 r.last.length))]) (E := 5) (bmap1 rfl) (fun w => by kernel_rfl)) (fun n57 w58 S59 => ?_)
    refine stPush (i := 0) (r := 0) (p := (b8 r.last.length)) (cs := [(bv (b8 r.last.length))]) S59 rfl i5 (.int .u8 0) 1 Tryz.underlying25 hi5 hz5 hs5 hb5 rfl (by decide) rfl rfl rfl rfl rfl (bv_one (b8 r.last.length)) (rfl) (Nat.le_refl _) S59.gr.below.size (by unfold maxLen; simp only [List.length_cons, List.length_append]; omega) (by simp only [List.length_cons, List.length_append]; omega) ?_
    intro v60 w61 S62 hn63
    simp only [pq]
    have S62 := St.drop S62 (.cons _ (List.Sublist.refl _))
    refine dx ?_
    refine stAppendS (r := 0) (u := (.slice x2 r.last.length y2)) S62 rfl i5 (.int .u8 0) 1 Tryz.underlying25 hi5 hz5 hs5 hb5 rfl (by decide) rfl rfl rfl (Sl.toW (Bs.sl (h2.mono le24)) (S62).sat) ByC.one (Nat.le_refl _) S62.gr.below.size (by unfold maxLen; simp only [List.length_cons, List.length_append, List.length_nil]; omega) (by simp only [List.length_cons, List.length_append, List.length_nil]; omega) ?_
    intro v64 w65 S66 hn67
    refine dy ?_
    refine wl_nil (hK28 _ _ ?_)
    rw [show (((b8 k :: encPre (hasN k) r i) ++ [(b8 r.last.length)]) ++ r.last) = b8 k :: encPre (hasN k) r (i + 1) from by rw [encPre_yes r he, h4]; simp [Rq.part]] at S66
    refine region_wl ?_
    refine dAdd (i + 1) ?_
    refine dx ?_
    simp only [pq]
    refine wl_nil ?_
    exact hK25 _ _ _ (by omega) ⟨(i + 1), v64, F17, _, rfl, rfl, rfl, S66, le24, (by omega)⟩
   ·have he : (hasN k).testBit i = false := by simpa using he
    have hx := bit_no he
    have hpl := encPre_len ok i (by omega)
    refine region_wl ?_
    refine dx ?_
    refine dr (.slice x2 r.last.length y2) (ex_indexV (i := i) Tryz.underlying91 (sizeof_25 _) rfl rfl (by omega) (nagg_25 _) (by rw [h4]; rfl)) ?_
    refine dy ?_
    simp only [pq]
    refine dy ?_
    refine wl_nil (hK29 _ _ ?_)
    refine sk fun K68 hK68 => ?_
    refine df (fa_27_0 _ _) ?_
    refine dl (nagg_3 _) S23 0 ?_
    refine dr (pP 0 k) (ex_atArr (i := k) Tryz.underlying92 (sizeof_3 _) rfl rfl (by omega)) ?_
    simp only [pq]
    refine dr _ (ex_load rfl (load1 (nagg_3 _) (has_at (hh.below S23.gr.below) hk))) ?_
    refine dx ?_
    refine dr (nI ((hasN k) / 2 ^ i)) (ex_shrI (m := (hasN k)) (n := i) rfl rfl (by omega)) ?_
    simp only [pq]
    refine dr (.int .i64 (((((hasN k) / 2 ^ i) % 2) : Nat) : Int)) (ex_andOne (m := ((hasN k) / 2 ^ i)) rfl rfl) ?_
    refine dr bF (ex_eql (m := (((((hasN k) / 2 ^ i) % 2) : Nat) : Int)) (n := (1 : Int)) (b := false) rfl rfl (beq_eq_false_iff_ne.2 (by rw [hx]; decide))) ?_
    refine wn hK68 ?_
    refine wp_cond_false rfl ?_
    refine wp_skip ?_
    refine hK28 _ _ ?_
    rw [← encPre_no r he] at S23
    refine region_wl ?_
    refine dAdd (i + 1) ?_
    refine dx ?_
    simp only [pq]
    refine wl_nil ?_
    exact hK25 _ _ _ (by omega) ⟨(i + 1), v, F17, _, rfl, rfl, rfl, S23, le24, (by omega)⟩
  ·by_cases he : (hasN k).testBit i = true
   ·have hx := bit_yes he
    have hpl := encPre_len ok i (by omega)
    refine region_wl ?_
    refine dx ?_
    refine dr (.slice x3 r.value.length y3) (ex_indexV (i := i) Tryz.underlying91 (sizeof_25 _) rfl rfl (by omega) (nagg_25 _) (by rw [h4]; rfl)) ?_
    refine dy ?_
    simp only [pq]
    refine dy ?_
    refine wl_nil (hK29 _ _ ?_)
    refine sk fun K69 hK69 => ?_
    refine df (fa_27_0 _ _) ?_
    refine dl (nagg_3 _) S23 0 ?_
    refine dr (pP 0 k) (ex_atArr (i := k) Tryz.underlying92 (sizeof_3 _) rfl rfl (by omega)) ?_
    simp only [pq]
    refine dr _ (ex_load rfl (load1 (nagg_3 _) (has_at (hh.below S23.gr.below) hk))) ?_
    refine dx ?_
    refine dr (nI ((hasN k) / 2 ^ i)) (ex_shrI (m := (hasN k)) (n := i) rfl rfl (by omega)) ?_
    simp only [pq]
    refine dr (.int .i64 (((((hasN k) / 2 ^ i) % 2) : Nat) : Int)) (ex_andOne (m := ((hasN k) / 2 ^ i)) rfl rfl) ?_
    refine dr bT (ex_eql (m := (((((hasN k) / 2 ^ i) % 2) : Nat) : Int)) (n := (1 : Int)) (b := true) rfl rfl (beq_iff_eq.2 (by rw [hx]; rfl))) ?_
    refine wn hK69 ?_
    refine wp_cond_true rfl ?_
    refine region_wl ?_
    iterate 2 refine dx ?_
    refine dn Tryz.underlying25 ?_
    simp only [pq]
    refine dr (bv (b8 r.value.length)) (ex_convert (v := (nI r.value.length)) rfl (conv_b8 r.value.length _)) ?_
    refine stNew S23 (v := fun n => .slice (aA n 0) 1 1) rfl (ex_lit (ps := #[(0, (bv (b8 r.value.length)))]) (cells := #[(bv (b8 r.value.length))]) (E := 5) (bmap1 rfl) (fun w => by kernel_rfl)) (fun n70 w71 S72 => ?_)
    refine stPush (i := 0) (r := 0) (p := (b8 r.value.length)) (cs := [(bv (b8 r.value.length))]) S72 rfl i5 (.int .u8 0) 1 Tryz.underlying25 hi5 hz5 hs5 hb5 rfl (by decide) rfl rfl rfl rfl rfl (bv_one (b8 r.value.length)) (rfl) (Nat.le_refl _) S72.gr.below.size (by unfold maxLen; simp only [List.length_cons, List.length_append]; omega) (by simp only [List.length_cons, List.length_append]; omega) ?_
    intro v73 w74 S75 hn76
    simp only [pq]
    have S75 := St.drop S75 (.cons _ (List.Sublist.refl _))
    refine dx ?_
    refine stAppendS (r := 0) (u := (.slice x3 r.value.length y3)) S75 rfl i5 (.int .u8 0) 1 Tryz.underlying25 hi5 hz5 hs5 hb5 rfl (by decide) rfl rfl rfl (Sl.toW (Bs.sl (h3.mono le24)) (S75).sat) ByC.one (Nat.le_refl _) S75.gr.below.size (by unfold maxLen; simp only [List.length_cons, List.length_append, List.length_nil]; omega) (by simp only [List.length_cons, List.length_append, List.length_nil]; omega) ?_
    intro v77 w78 S79 hn80
    refine dy ?_
    refine wl_nil (hK28 _ _ ?_)
    rw [show (((b8 k :: encPre (hasN k) r i) ++ [(b8 r.value.length)]) ++ r.value) = b8 k :: encPre (hasN k) r (i + 1) from by rw [encPre_yes r he, h4]; simp [Rq.part]] at S79
    refine region_wl ?_
    refine dAdd (i + 1) ?_
    refine dx ?_
    simp only [pq]
    refine wl_nil ?_
    exact hK25 _ _ _ (by omega) ⟨(i + 1), v77, F17, _, rfl, rfl, rfl, S79, le24, (by omega)⟩
   ·have he : (hasN k).testBit i = false := by simpa using he
    have hx := bit_no he
    have hpl := encPre_len ok i (by omega)
    refine region_wl ?_
    refine dx ?_
    refine dr (.slice x3 r.value.length y3) (ex_indexV (i := i) Tryz.underlying91 (sizeof_25 _) rfl rfl (by omega) (nagg_25 _) (by rw [h4]; rfl)) ?_
    refine dy ?_
    simp only [pq]
    refine dy ?_
    refine wl_nil (hK29 _ _ ?_)
    refine sk fun K81 hK81 => ?_
    refine df (fa_27_0 _ _) ?_
    refine dl (nagg_3 _) S23 0 ?_
    refine dr (pP 0 k) (ex_atArr (i := k) Tryz.underlying92 (sizeof_3 _) rfl rfl (by omega)) ?_
    simp only [pq]
    refine dr _ (ex_load rfl (load1 (nagg_3 _) (has_at (hh.below S23.gr.below) hk))) ?_
    refine dx ?_
    refine dr (nI ((hasN k) / 2 ^ i)) (ex_shrI (m := (hasN k)) (n := i) rfl rfl (by omega)) ?_
    simp only [pq]
    refine dr (.int .i64 (((((hasN k) / 2 ^ i) % 2) : Nat) : Int)) (ex_andOne (m := ((hasN k) / 2 ^ i)) rfl rfl) ?_
    refine dr bF (ex_eql (m := (((((hasN k) / 2 ^ i) % 2) : Nat) : Int)) (n := (1 : Int)) (b := false) rfl rfl (beq_eq_false_iff_ne.2 (by rw [hx]; decide))) ?_
    refine wn hK81 ?_
    refine wp_cond_false rfl ?_
    refine wp_skip ?_
    refine hK28 _ _ ?_
    rw [← encPre_no r he] at S23
    refine region_wl ?_
    refine dAdd (i + 1) ?_
    refine dx ?_
    simp only [pq]
    refine wl_nil ?_
    exact hK25 _ _ _ (by omega) ⟨(i + 1), v, F17, _, rfl, rfl, rfl, S23, le24, (by omega)⟩
 ·refine lssF ?_
  refine wn hK26 ?_
  refine wp_seq_k (fun K82 hK82 => ?_)
  refine wp_cond_false rfl ?_
  refine wp_exit ?_
  refine hK14 _ _ ?_
  refine sk fun K83 hK83 => ?_
  refine dx ?_
  iterate 2 refine dy ?_
  simp only [pq]
  refine wn hK83 ?_
  refine wp_ret ?_
  (try simp only [Exit.then, Exit.inBlock, ↓reduceIte, Nat.reduceEqDiff])
  refine bR (res_tt rfl (gD rfl) (gD rfl)) ?_
  ·have hi5 : i = 4 := by omega
   subst hi5
   rw [encPre_all] at S23
   obtain ⟨F84, S85, le86, hv87⟩ := St.freeze S23 (i := 0) rfl (Nat.le_refl _)
   have hv87 : Bys _ v (b8 k :: encW (hasN k) r) := hv87
   exact ⟨_, _, rfl, S85.gr, _, rfl, bs_of_sl hv87⟩
theorem nagg_150 (w : World) : (isAgg 150).run Tryz.prog w = .ok false w := by kernel_rfl
theorem sizeof_150 (w : World) : (sizeOf 150).run Tryz.prog w = .ok 1 w := by kernel_rfl
theorem wd_eq {b : By} {c : UInt8} (h : b[0]? = some c) (hl : ¬ 4000 < b.length) : wdE b = if c.toNat < 1 ∨ 8 < c.toNat then 5 else match decW (hasN c.toNat) (b.drop 1) with
    | none => 14
    | some p => if 0 < p.2.length then 4 else wireN c.toNat p.1.name.length p.1.key.length p.1.last.length p.1.value.length := by
  cases b with
  | nil => cases h
  | cons y t =>
    simp only [List.getElem?_cons_zero, Option.some.injEq] at h
    subst h
    unfold wdE
    rw [if_neg hl]
    rfl
theorem wd_rq {b : By} {c : UInt8} {p : Rq × By} (h : b[0]? = some c) (he : wdE b = 0) (hd : decW (hasN c.toNat) (b.drop 1) = some p) : wdR b = (c.toNat, p.1) := by
 cases b with
 | nil => cases h
 | cons y t =>
  simp only [List.getElem?_cons_zero, Option.some.injEq] at h
  subst h
  simp only [List.drop_succ_cons, List.drop_zero] at hd
  unfold wdR
  rw [if_pos he]
  simp only [hd]
def DecQ (b : By) (F : Fz) (u : Value) : Prop := ∃ x, u = .tuple #[x, .int .i64 (wdE b)] ∧ ReqV F x ((wdR b).1 : Nat) (wdR b).2.name (wdR b).2.key (wdR b).2.last (wdR b).2.value
theorem decQ_bad {b : By} {F : Fz} {e : Int} (he : wdE b = e) (h0 : e ≠ 0) : DecQ b F (.tuple #[.agg #[.int .i64 0, .slice none 0 0, .slice none 0 0, .slice none 0 0, .slice none 0 0], .int .i64 e]) := by
 unfold DecQ
 rw [wdR_bad (by rw [he]; exact h0), he]
 exact ⟨_, rfl, _, _, _, _, rfl, Bs.nil _, Bs.nil _, Bs.nil _, Bs.nil _⟩
theorem wireDecode_spec (F : Fz) (w : World) (v : Value) (b : By) (hs : Sat w F) (hh : Has w) (hb : Bs F v b) :
    Calls Tryz.prog 77 #[v] w (Gives w F (DecQ b)) := by
 obtain ⟨x, y, rfl, hc1', hc2'⟩ := hb.shape
 unfold maxLen at hc2'
 have S := St.start hs
 go_enter Tryz.func77, Tryz.ntmps77
 refine sk fun K1 hK1 => ?_
 refine sA S (zero_27 _) fun n2 w3 S4 => ?_
 refine dy ?_
 refine wn hK1 ?_
 refine wp_seq_k (fun K5 hK5 => ?_)
 refine sk fun K6 hK6 => ?_
 refine dx ?_
 refine dn Tryz.underlying25 ?_
 simp only [pq]
 by_cases hc12 : 4000 < b.length
 ·refine gtrT ?_
  refine wn hK6 ?_
  refine wp_cond_true rfl ?_
  refine wp_seq_k (fun K7 hK7 => ?_)
  have hE : wdE b = 1 := by unfold wdE; rw [if_pos (by omega)]
  refine region_wl ?_
  refine dr (.agg #[(iI 0), Zn, Zn, Zn, Zn]) (ex_build (bmap0) (by kernel_rfl)) ?_
  refine sW 0 S4 (size_27) fun w8 S9 => ?_
  simp only [pq]
  refine dy ?_
  refine wl_nil (hK7 _ _ ?_)
  refine wp_ret ?_
  (try simp only [Exit.then, Exit.inBlock, ↓reduceIte, Nat.reduceEqDiff])
  refine bR (res_ct rfl ⟨_, rfl, lR S9 0 Tryz.underlying27 (size_27)⟩ (gD rfl)) ?_
  ·exact ⟨_, _, rfl, S9.gr, decQ_bad hE (by decide)⟩
 ·refine gtrF ?_
  refine wn hK6 ?_
  refine wp_cond_false rfl ?_
  refine wp_skip ?_
  refine hK5 _ _ ?_
  refine wp_seq_k (fun K10 hK10 => ?_)
  refine wp_seq_k (fun K11 hK11 => ?_)
  have hl4 : ¬ 4000 < b.length := by omega
  refine region_wl ?_
  refine dx ?_
  refine dn Tryz.underlying25 ?_
  simp only [pq]
  by_cases hc16 : b.length = 0
  ·refine eqlT ?_
   refine wl_nil (hK11 _ _ ?_)
   refine wp_cond_true rfl ?_
   refine wp_seq_k (fun K12 hK12 => ?_)
   have hE : wdE b = 14 := by rw [List.eq_nil_of_length_eq_zero (show b.length = 0 by omega)]; rfl
   refine region_wl ?_
   refine dr (.agg #[(iI 0), Zn, Zn, Zn, Zn]) (ex_build (bmap0) (by kernel_rfl)) ?_
   refine sW 0 S4 (size_27) fun w13 S14 => ?_
   simp only [pq]
   refine dy ?_
   refine wl_nil (hK12 _ _ ?_)
   refine wp_ret ?_
   (try simp only [Exit.then, Exit.inBlock, ↓reduceIte, Nat.reduceEqDiff])
   refine bR (res_ct rfl ⟨_, rfl, lR S14 0 Tryz.underlying27 (size_27)⟩ (gD rfl)) ?_
   ·exact ⟨_, _, rfl, S14.gr, decQ_bad hE (by decide)⟩
  ·refine eqlF ?_
   refine wl_nil (hK11 _ _ ?_)
   refine wp_cond_false rfl ?_
   refine wp_skip ?_
   refine hK10 _ _ ?_
   refine wp_seq_k (fun K15 hK15 => ?_)
   obtain ⟨c0, hc0⟩ : ∃ c, b[0]? = some c := ⟨b[0], List.getElem?_eq_getElem (by omega)⟩
   have hb8 := UInt8.toNat_lt c0
   obtain ⟨b16, o17, ha18, c19⟩ := Bs.get hb hc0
   refine region_wl ?_
   refine dx ?_
   refine dr (pP b16 (o17 + 0 * 1)) (ex_at (i := 0) (sz := 1) Tryz.underlying25 (sizeof_5 _) rfl ha18 rfl (by omega) rfl) ?_
   refine dr _ (ex_load rfl (load1 (nagg_5 _) (St.fz S4 c19))) ?_
   simp only [pq]
   refine dr (nI c0.toNat) (ex_convert (v := (bv c0)) rfl (conv_int c0 _)) ?_
   refine dr (.agg #[(nI c0.toNat), Zn, Zn, Zn, Zn]) (ex_build (bmap1 rfl) (by kernel_rfl)) ?_
   refine sA S4 (zero_27 _) fun n20 w21 S22 => ?_
   simp only [pq]
   refine sW 0 S22 (size_27) fun w23 S24 => ?_
   refine wl_nil (hK15 _ _ ?_)
   refine wp_seq_k (fun K25 hK25 => ?_)
   refine sk fun K26 hK26 => ?_
   refine df (fa_27_0 _ _) ?_
   refine dl (nagg_3 _) S24 0 ?_
   simp only [pq]
   by_cases hc25 : c0.toNat < 1
   ·refine lssT ?_
    refine dx ?_
    refine nO ?_
    simp only [pq]
    iterate 2 refine nO ?_
    refine dp ?_
    simp only [pq]
    refine wn hK26 ?_
    refine wp_cond_true rfl ?_
    refine wp_seq_k (fun K27 hK27 => ?_)
    have hE : wdE b = 5 := by rw [wd_eq hc0 hl4, if_pos (by omega)]
    refine region_wl ?_
    refine dr (.agg #[(iI 0), Zn, Zn, Zn, Zn]) (ex_build (bmap0) (by kernel_rfl)) ?_
    refine sW 1 S24 (size_27) fun w28 S29 => ?_
    refine dy ?_
    simp only [pq]
    refine wl_nil (hK27 _ _ ?_)
    refine wp_ret ?_
    (try simp only [Exit.then, Exit.inBlock, ↓reduceIte, Nat.reduceEqDiff])
    refine bR (res_ct rfl ⟨_, rfl, lR S29 1 Tryz.underlying27 (size_27)⟩ (gD rfl)) ?_
    ·exact ⟨_, _, rfl, S29.gr, decQ_bad hE (by decide)⟩
   ·refine lssF ?_
    refine dx ?_
    refine df (fa_27_0 _ _) ?_
    simp only [pq]
    refine dl (nagg_3 _) S24 0 ?_
    simp only [pq]
    by_cases hc29 : 8 < c0.toNat
    ·refine gtrT ?_
     refine dp ?_
     refine wn hK26 ?_
     refine wp_cond_true rfl ?_
     refine wp_seq_k (fun K30 hK30 => ?_)
     have hE : wdE b = 5 := by rw [wd_eq hc0 hl4, if_pos (by omega)]
     refine region_wl ?_
     refine dr (.agg #[(iI 0), Zn, Zn, Zn, Zn]) (ex_build (bmap0) (by kernel_rfl)) ?_
     simp only [pq]
     refine sW 1 S24 (size_27) fun w31 S32 => ?_
     refine dy ?_
     refine wl_nil (hK30 _ _ ?_)
     refine wp_ret ?_
     (try simp only [Exit.then, Exit.inBlock, ↓reduceIte, Nat.reduceEqDiff])
     refine bR (res_ct rfl ⟨_, rfl, lR S32 1 Tryz.underlying27 (size_27)⟩ (gD rfl)) ?_
     ·exact ⟨_, _, rfl, S32.gr, decQ_bad hE (by decide)⟩
    ·refine gtrF ?_
     refine dp ?_
     simp only [pq]
     refine wn hK26 ?_
     refine wp_cond_false rfl ?_
     refine wp_skip ?_
     refine hK25 _ _ ?_
     refine wp_seq_k (fun K33 hK33 => ?_)
     have hk : 1 ≤ c0.toNat ∧ c0.toNat ≤ 8 := by omega
     have hwd := wd_eq hc0 hl4
     rw [if_neg (by omega)] at hwd
     refine region_wl ?_
     refine dx ?_
     simp only [pq]
     have r34 : Bs _ (.slice (if y = 1 then x else x.map (·.add (1 * 1))) (b.length - 1) (y - 1)) (b.drop 1) := Bs.rest hb (by omega)
     refine dr (.slice (if y = 1 then x else x.map (·.add (1 * 1))) (b.length - 1) (y - 1)) (ex_slice (l := 1) (h := b.length) (sz := 1) Tryz.underlying25 rfl (sizeof_5 _) (.inr ⟨_, rfl, rfl⟩) (.inl ⟨rfl, rfl⟩) (by omega) (by omega) (rfl)) ?_
     refine dy ?_
     refine wl_nil (hK33 _ _ ?_)
     refine wp_seq_k (fun K35 hK35 => ?_)
     refine sk fun K36 hK36 => ?_
     refine df (fa_27_1 _ _) ?_
     refine df (fa_27_2 _ _) ?_
     refine df (fa_27_3 _ _) ?_
     simp only [pq]
     refine df (fa_27_4 _ _) ?_
     refine dr (.agg #[(pP n20 1), (pP n20 2), (pP n20 3), (pP n20 4)]) (ex_build (bmap4 rfl rfl rfl rfl) (by kernel_rfl)) ?_
     refine dx ?_
     simp only [pq]
     refine wn hK36 ?_
     refine wp_block ?_
     refine wp_loop_g (fun mm aa w39 => ∃ (i : Nat) (r : Rq) (a0 : Option Addr) (e0 : Nat) (a1 : Option Addr) (e1 : Nat) (a2 : Option Addr) (e2 : Nat) (a3 : Option Addr) (e3 : Nat) (ra : Option Addr) (rn : Nat) (rc : Nat) (rest : By) (F37 : Fz) (u38 : Nat → Value), mm = 4 - i ∧ u38 = slots aa ∧ aa = ⟨#[(.slice x b.length y), undef, (pP n2 0), (u38 3), (pP n20 0), (.slice ra rn rc), (u38 6), (u38 7), (u38 8), undef, (.slice x b.length y), (nI b.length), bF, undef, (.slice x b.length y), (nI b.length), bF, undef, (.slice x b.length y), (pP b16 (o17 + 0 * 1)), (bv c0), (nI c0.toNat), (.agg #[(nI c0.toNat), Zn, Zn, Zn, Zn]), (pP n20 0), (nI c0.toNat), bF, bF, (pP n20 0), (nI c0.toNat), bF, bF, undef, (.slice x b.length y), (.slice (if y = 1 then x else x.map (·.add (1 * 1))) (b.length - 1) (y - 1)), (pP n20 1), (pP n20 2), (pP n20 3), (pP n20 4), (.agg #[(pP n20 1), (pP n20 2), (pP n20 3), (pP n20 4)]), (nI i), (u38 40), (u38 41), (u38 42), (u38 43), (u38 44), (u38 45), (u38 46), (u38 47), (u38 48), (u38 49), (u38 50), (u38 51), (u38 52), (u38 53), (u38 54), (u38 55), (u38 56), (u38 57), (u38 58), (u38 59), (u38 60), (u38 61), (u38 62), (u38 63), (u38 64), (u38 65), (u38 66), (u38 67), (u38 68), (u38 69), (u38 70), (u38 71), (u38 72), (u38 73), (u38 74), (u38 75), (u38 76), (u38 77), (u38 78), (u38 79), undef, undef, undef, undef, undef, undef, undef, undef, undef, undef, undef], []⟩ ∧ St w F w39 F37 [⟨n20, [(nI c0.toNat), (.slice a0 r.name.length e0), (.slice a1 r.key.length e1), (.slice a2 r.last.length e2), (.slice a3 r.value.length e3)], 27⟩, ⟨n2, [(iI 0), Zn, Zn, Zn, Zn], 27⟩] [] ∧ Le F F37 ∧ (i ≤ 4) ∧ (Bs F37 (.slice a0 r.name.length e0) r.name) ∧ (Bs F37 (.slice a1 r.key.length e1) r.key) ∧ (Bs F37 (.slice a2 r.last.length e2) r.last) ∧ (Bs F37 (.slice a3 r.value.length e3) r.value) ∧ (Bs F37 (.slice ra rn rc) rest) ∧ (rest.length ≤ 4000) ∧ (decFrom (hasN c0.toNat) (4 - i) i r rest = decW (hasN c0.toNat) (b.drop 1))) _ ⟨0, ⟨[], [], [], []⟩, none, 0, none, 0, none, 0, none, 0, (if y = 1 then x else x.map (·.add (1 * 1))), (b.length - 1), (y - 1), (b.drop 1), F, _, rfl, rfl, rfl, S24, Le.refl _, (by omega), (Bs.nil _), (Bs.nil _), (Bs.nil _), (Bs.nil _), r34, (by simp only [List.length_drop]; omega), (decFrom_all _ _)⟩ ?_
     rintro m40 a41 w42 ⟨i, r, a0, e0, a1, e1, a2, e2, a3, e3, ra, rn, rc, rest, F37, u38, rfl, -, rfl, S43, le44, hi4, hf0, hf1, hf2, hf3, hrest, hrl, hinv⟩ K45 hK45
     refine sk fun K46 hK46 => ?_
     by_cases hc40 : i < 4
     ·refine lssT ?_
      refine wn hK46 ?_
      refine wp_seq_k (fun K47 hK47 => ?_)
      refine wp_cond_true rfl ?_
      refine wp_skip ?_
      refine hK47 _ _ ?_
      refine wp_seq_k (fun K48 hK48 => ?_)
      refine wp_block ?_
      refine wp_seq_k (fun K49 hK49 => ?_)
      rcases (by omega : i = 0 ∨ i = 1 ∨ i = 2 ∨ i = 3) with h4 | h4 | h4 | h4
      ·by_cases he : (hasN c0.toNat).testBit i = true
       ·have hx := bit_yes he
        have hrn := hrest.len
        have hcap : rest.length ≤ rc := by obtain ⟨_, _, e, q, _⟩ := hrest.shape; injection e with _ _ e; rw [e]; exact q
        refine region_wl ?_
        refine dx ?_
        refine dr (pP n20 1) (ex_indexV (i := i) Tryz.underlying151 (sizeof_150 _) rfl rfl (by omega) (nagg_150 _) (by rw [h4]; rfl)) ?_
        refine dy ?_
        simp only [pq]
        refine dy ?_
        refine wl_nil (hK49 _ _ ?_)
        refine wp_seq_k (fun K50 hK50 => ?_)
        refine sk fun K51 hK51 => ?_
        refine df (fa_27_0 _ _) ?_
        refine dl (nagg_3 _) S43 0 ?_
        refine dr (pP 0 (c0.toNat)) (ex_atArr (i := c0.toNat) Tryz.underlying92 (sizeof_3 _) rfl rfl (by omega)) ?_
        simp only [pq]
        refine dr _ (ex_load rfl (load1 (nagg_3 _) (has_at (hh.below S43.gr.below) hk))) ?_
        refine dx ?_
        refine dr (nI ((hasN c0.toNat) / 2 ^ i)) (ex_shrI (m := (hasN c0.toNat)) (n := i) rfl rfl (by omega)) ?_
        simp only [pq]
        refine dr (.int .i64 (((((hasN c0.toNat) / 2 ^ i) % 2) : Nat) : Int)) (ex_andOne (m := ((hasN c0.toNat) / 2 ^ i)) rfl rfl) ?_
        refine dr bF (ex_eql (m := (((((hasN c0.toNat) / 2 ^ i) % 2) : Nat) : Int)) (n := (0 : Int)) (b := false) rfl rfl (beq_eq_false_iff_ne.2 (by rw [hx]; decide))) ?_
        refine wn hK51 ?_
        refine wp_cond_false rfl ?_
        refine wp_skip ?_
        refine hK50 _ _ ?_
        refine wp_seq_k (fun K52 hK52 => ?_)
        refine wp_seq_k (fun K53 hK53 => ?_)
        by_cases hz : rest.length = 0
        ·refine region_wl ?_
         refine dx ?_
         refine dn Tryz.underlying25 ?_
         refine eqlT ?_
         simp only [pq]
         refine dx ?_
         iterate 2 refine nO ?_
         simp only [pq]
         iterate 3 refine nO ?_
         simp only [pq]
         iterate 3 refine nO ?_
         simp only [pq]
         refine dp ?_
         refine wl_nil (hK53 _ _ ?_)
         refine wp_cond_true rfl ?_
         refine wp_seq_k (fun K54 hK54 => ?_)
         have hN : decW (hasN c0.toNat) (b.drop 1) = none := by rw [← hinv, show 4 - i = (3 - i) + 1 from by omega]; exact decFrom_none he (part_nil hz)
         have hE : wdE b = 14 := by rw [hwd, hN]
         refine region_wl ?_
         refine dr (.agg #[(iI 0), Zn, Zn, Zn, Zn]) (ex_build (bmap0) (by kernel_rfl)) ?_
         refine sW 1 S43 (size_27) fun w55 S56 => ?_
         simp only [pq]
         refine dy ?_
         refine wl_nil (hK54 _ _ ?_)
         refine wp_ret ?_
         (try simp only [Exit.then, Exit.inBlock, ↓reduceIte, Nat.reduceEqDiff])
         refine bR (res_ct rfl ⟨_, rfl, lR S56 1 Tryz.underlying27 (size_27)⟩ (gD rfl)) ?_
         ·exact ⟨_, _, rfl, S56.gr, decQ_bad hE (by decide)⟩
        ·obtain ⟨c1, hc1⟩ : ∃ c, rest[0]? = some c := ⟨rest[0], List.getElem?_eq_getElem (by omega)⟩
         have hb9 := UInt8.toNat_lt c1
         obtain ⟨b57, o58, ha59, c60⟩ := Bs.get hrest hc1
         refine region_wl ?_
         refine dx ?_
         refine dn Tryz.underlying25 ?_
         refine eqlF ?_
         simp only [pq]
         iterate 2 refine dx ?_
         refine dn Tryz.underlying25 ?_
         simp only [pq]
         refine dx ?_
         refine dr (pP b57 (o58 + 0 * 1)) (ex_at (i := 0) (sz := 1) Tryz.underlying25 (sizeof_5 _) rfl ha59 rfl (by omega) rfl) ?_
         refine dr _ (ex_load rfl (load1 (nagg_5 _) (St.fz S43 c60))) ?_
         simp only [pq]
         refine dr (nI c1.toNat) (ex_convert (v := (bv c1)) rfl (conv_int c1 _)) ?_
         refine dAdd (1 + c1.toNat) ?_
         simp only [pq]
         by_cases hc62 : rn < (1 + c1.toNat)
         ·refine lssT ?_
          refine dp ?_
          refine wl_nil (hK53 _ _ ?_)
          refine wp_cond_true rfl ?_
          refine wp_seq_k (fun K61 hK61 => ?_)
          have hN : decW (hasN c0.toNat) (b.drop 1) = none := by rw [← hinv, show 4 - i = (3 - i) + 1 from by omega]; exact decFrom_none he (part_short hc1 (by omega))
          have hE : wdE b = 14 := by rw [hwd, hN]
          refine region_wl ?_
          refine dr (.agg #[(iI 0), Zn, Zn, Zn, Zn]) (ex_build (bmap0) (by kernel_rfl)) ?_
          simp only [pq]
          refine sW 1 S43 (size_27) fun w62 S63 => ?_
          refine dy ?_
          refine wl_nil (hK61 _ _ ?_)
          refine wp_ret ?_
          (try simp only [Exit.then, Exit.inBlock, ↓reduceIte, Nat.reduceEqDiff])
          refine bR (res_ct rfl ⟨_, rfl, lR S63 1 Tryz.underlying27 (size_27)⟩ (gD rfl)) ?_
          ·exact ⟨_, _, rfl, S63.gr, decQ_bad hE (by decide)⟩
         ·refine lssF ?_
          refine dp ?_
          simp only [pq]
          refine wl_nil (hK53 _ _ ?_)
          refine wp_cond_false rfl ?_
          refine wp_skip ?_
          refine hK52 _ _ ?_
          refine sk fun K64 hK64 => ?_
          refine dx ?_
          refine dr (pP b57 (o58 + 0 * 1)) (ex_at (i := 0) (sz := 1) Tryz.underlying25 (sizeof_5 _) rfl ha59 rfl (by omega) rfl) ?_
          refine dr _ (ex_load rfl (load1 (nagg_5 _) (St.fz S43 c60))) ?_
          simp only [pq]
          refine dr (nI c1.toNat) (ex_convert (v := (bv c1)) rfl (conv_int c1 _)) ?_
          refine dAdd (1 + c1.toNat) ?_
          refine dy ?_
          simp only [pq]
          refine wn hK64 ?_
          refine sk fun K65 hK65 => ?_
          iterate 3 refine dx ?_
          simp only [pq]
          have r66 : Bs _ (.slice ra (1 + c1.toNat) rc) (rest.take (1 + c1.toNat)) := bs_of_sl (Sl.takeN (m := (1 + c1.toNat)) (Bs.sl hrest) (by omega))
          have r66 : Bs _ (.slice (if rc = 1 then ra else ra.map (·.add (1 * 1))) ((1 + c1.toNat) - 1) (rc - 1)) ((rest.take (1 + c1.toNat)).drop 1) := Bs.rest r66 (by omega)
          refine dr (.slice (if rc = 1 then ra else ra.map (·.add (1 * 1))) ((1 + c1.toNat) - 1) (rc - 1)) (ex_slice (l := 1) (h := (1 + c1.toNat)) (sz := 1) Tryz.underlying25 rfl (sizeof_5 _) (.inr ⟨_, rfl, rfl⟩) (.inr ⟨_, rfl, rfl⟩) (by omega) (by omega) (rfl)) ?_
          refine stGives S43 rfl (fn1 (ent_45 _ _)) (clone_spec _ _ _ ((rest.take (1 + c1.toNat)).drop 1) (S43).sat r66 (by simp only [List.length_drop, List.length_take]; omega)) ?_
          intro v72 w67 F69 S68 le70 R71
          obtain ⟨xa73, xc74, rfl, _⟩ := R71.shape
          refine di ?_
          refine sW 0 S68 (size_25) fun w75 S76 => ?_
          simp only [pq]
          refine wn hK65 ?_
          refine region_wl ?_
          iterate 2 refine dx ?_
          simp only [pq]
          have r77 : Bs _ (.slice (if rc = (1 + c1.toNat) then ra else ra.map (·.add ((1 + c1.toNat) * 1))) (rn - (1 + c1.toNat)) (rc - (1 + c1.toNat))) (rest.drop (1 + c1.toNat)) := Bs.rest (hrest.mono le70) (by omega)
          refine dr (.slice (if rc = (1 + c1.toNat) then ra else ra.map (·.add ((1 + c1.toNat) * 1))) (rn - (1 + c1.toNat)) (rc - (1 + c1.toNat))) (ex_slice (l := (1 + c1.toNat)) (h := rn) (sz := 1) Tryz.underlying25 rfl (sizeof_5 _) (.inr ⟨_, rfl, rfl⟩) (.inl ⟨rfl, rfl⟩) (by omega) (by omega) (rfl)) ?_
          refine dy ?_
          refine wl_nil (hK48 _ _ ?_)
          refine region_wl ?_
          refine dAdd (i + 1) ?_
          refine dx ?_
          simp only [pq]
          refine wl_nil ?_
          exact hK45 _ _ _ (by omega) ⟨(i + 1), (⟨((rest.take (1 + c1.toNat)).drop 1), r.key, r.last, r.value⟩ : Rq), xa73, xc74, a1, e1, a2, e2, a3, e3, (if rc = (1 + c1.toNat) then ra else ra.map (·.add ((1 + c1.toNat) * 1))), (rn - (1 + c1.toNat)), (rc - (1 + c1.toNat)), (rest.drop (1 + c1.toNat)), F69, _, rfl, rfl, rfl, S76, (le44.trans le70), (by omega), R71, (hf1.mono le70), (hf2.mono le70), (hf3.mono le70), r77, (by simp only [List.length_drop]; omega), (by subst h4; rw [← hinv]; exact (decFrom_some (n := 3) he (part_long hc1 (by omega))).symm)⟩
       ·have he : (hasN c0.toNat).testBit i = false := by simpa using he
        have hx := bit_no he
        have hrn := hrest.len
        have hcap : rest.length ≤ rc := by obtain ⟨_, _, e, q, _⟩ := hrest.shape; injection e with _ _ e; rw [e]; exact q
        refine region_wl ?_
        refine dx ?_
        refine dr (pP n20 1) (ex_indexV (i := i) Tryz.underlying151 (sizeof_150 _) rfl rfl (by omega) (nagg_150 _) (by rw [h4]; rfl)) ?_
        refine dy ?_
        simp only [pq]
        refine dy ?_
        refine wl_nil (hK49 _ _ ?_)
        refine wp_seq_k (fun K78 hK78 => ?_)
        refine sk fun K79 hK79 => ?_
        refine df (fa_27_0 _ _) ?_
        refine dl (nagg_3 _) S43 0 ?_
        refine dr (pP 0 (c0.toNat)) (ex_atArr (i := c0.toNat) Tryz.underlying92 (sizeof_3 _) rfl rfl (by omega)) ?_
        simp only [pq]
        refine dr _ (ex_load rfl (load1 (nagg_3 _) (has_at (hh.below S43.gr.below) hk))) ?_
        refine dx ?_
        refine dr (nI ((hasN c0.toNat) / 2 ^ i)) (ex_shrI (m := (hasN c0.toNat)) (n := i) rfl rfl (by omega)) ?_
        simp only [pq]
        refine dr (.int .i64 (((((hasN c0.toNat) / 2 ^ i) % 2) : Nat) : Int)) (ex_andOne (m := ((hasN c0.toNat) / 2 ^ i)) rfl rfl) ?_
        refine dr bT (ex_eql (m := (((((hasN c0.toNat) / 2 ^ i) % 2) : Nat) : Int)) (n := (0 : Int)) (b := true) rfl rfl (beq_iff_eq.2 (by rw [hx]; rfl))) ?_
        refine wn hK79 ?_
        refine wp_cond_true rfl ?_
        refine wp_exit ?_
        refine hK48 _ _ ?_
        refine region_wl ?_
        refine dAdd (i + 1) ?_
        refine dx ?_
        simp only [pq]
        refine wl_nil ?_
        exact hK45 _ _ _ (by omega) ⟨(i + 1), r, a0, e0, a1, e1, a2, e2, a3, e3, ra, rn, rc, rest, F37, _, rfl, rfl, rfl, S43, le44, (by omega), hf0, hf1, hf2, hf3, hrest, (by omega), (by subst h4; rw [← hinv]; exact (decFrom_no (n := 3) he).symm)⟩
      ·by_cases he : (hasN c0.toNat).testBit i = true
       ·have hx := bit_yes he
        have hrn := hrest.len
        have hcap : rest.length ≤ rc := by obtain ⟨_, _, e, q, _⟩ := hrest.shape; injection e with _ _ e; rw [e]; exact q
        refine region_wl ?_
        refine dx ?_
        refine dr (pP n20 2) (ex_indexV (i := i) Tryz.underlying151 (sizeof_150 _) rfl rfl (by omega) (nagg_150 _) (by rw [h4]; rfl)) ?_
        refine dy ?_
        simp only [pq]
        refine dy ?_
        refine wl_nil (hK49 _ _ ?_)
        refine wp_seq_k (fun K80 hK80 => ?_)
        refine sk fun K81 hK81 => ?_
        refine df (fa_27_0 _ _) ?_
        refine dl (nagg_3 _) S43 0 ?_
        refine dr (pP 0 (c0.toNat)) (ex_atArr (i := c0.toNat) Tryz.underlying92 (sizeof_3 _) rfl rfl (by omega)) ?_
        simp only [pq]
        refine dr _ (ex_load rfl (load1 (nagg_3 _) (has_at (hh.below S43.gr.below) hk))) ?_
        refine dx ?_
        refine dr (nI ((hasN c0.toNat) / 2 ^ i)) (ex_shrI (m := (hasN c0.toNat)) (n := i) rfl rfl (by omega)) ?_
        simp only [pq]
        refine dr (.int .i64 (((((hasN c0.toNat) / 2 ^ i) % 2) : Nat) : Int)) (ex_andOne (m := ((hasN c0.toNat) / 2 ^ i)) rfl rfl) ?_
        refine dr bF (ex_eql (m := (((((hasN c0.toNat) / 2 ^ i) % 2) : Nat) : Int)) (n := (0 : Int)) (b := false) rfl rfl (beq_eq_false_iff_ne.2 (by rw [hx]; decide))) ?_
        refine wn hK81 ?_
        refine wp_cond_false rfl ?_
        refine wp_skip ?_
        refine hK80 _ _ ?_
        refine wp_seq_k (fun K82 hK82 => ?_)
        refine wp_seq_k (fun K83 hK83 => ?_)
        by_cases hz : rest.length = 0
        ·refine region_wl ?_
         refine dx ?_
         refine dn Tryz.underlying25 ?_
         refine eqlT ?_
         simp only [pq]
         refine dx ?_
         iterate 2 refine nO ?_
         simp only [pq]
         iterate 3 refine nO ?_
         simp only [pq]
         iterate 3 refine nO ?_
         simp only [pq]
         refine dp ?_
         refine wl_nil (hK83 _ _ ?_)
         refine wp_cond_true rfl ?_
         refine wp_seq_k (fun K84 hK84 => ?_)
         have hN : decW (hasN c0.toNat) (b.drop 1) = none := by rw [← hinv, show 4 - i = (3 - i) + 1 from by omega]; exact decFrom_none he (part_nil hz)
         have hE : wdE b = 14 := by rw [hwd, hN]
         refine region_wl ?_
         refine dr (.agg #[(iI 0), Zn, Zn, Zn, Zn]) (ex_build (bmap0) (by kernel_rfl)) ?_
         refine sW 1 S43 (size_27) fun w85 S86 => ?_
         simp only [pq]
         refine dy ?_
         refine wl_nil (hK84 _ _ ?_)
         refine wp_ret ?_
         (try simp only [Exit.then, Exit.inBlock, ↓reduceIte, Nat.reduceEqDiff])
         refine bR (res_ct rfl ⟨_, rfl, lR S86 1 Tryz.underlying27 (size_27)⟩ (gD rfl)) ?_
         ·exact ⟨_, _, rfl, S86.gr, decQ_bad hE (by decide)⟩
        ·obtain ⟨c1, hc1⟩ : ∃ c, rest[0]? = some c := ⟨rest[0], List.getElem?_eq_getElem (by omega)⟩
         have hb9 := UInt8.toNat_lt c1
         obtain ⟨b87, o88, ha89, c90⟩ := Bs.get hrest hc1
         refine region_wl ?_
         refine dx ?_
         refine dn Tryz.underlying25 ?_
         refine eqlF ?_
         simp only [pq]
         iterate 2 refine dx ?_
         refine dn Tryz.underlying25 ?_
         simp only [pq]
         refine dx ?_
         refine dr (pP b87 (o88 + 0 * 1)) (ex_at (i := 0) (sz := 1) Tryz.underlying25 (sizeof_5 _) rfl ha89 rfl (by omega) rfl) ?_
         refine dr _ (ex_load rfl (load1 (nagg_5 _) (St.fz S43 c90))) ?_
         simp only [pq]
         refine dr (nI c1.toNat) (ex_convert (v := (bv c1)) rfl (conv_int c1 _)) ?_
         refine dAdd (1 + c1.toNat) ?_
         simp only [pq]
         by_cases hc62 : rn < (1 + c1.toNat)
         ·refine lssT ?_
          refine dp ?_
          refine wl_nil (hK83 _ _ ?_)
          refine wp_cond_true rfl ?_
          refine wp_seq_k (fun K91 hK91 => ?_)
          have hN : decW (hasN c0.toNat) (b.drop 1) = none := by rw [← hinv, show 4 - i = (3 - i) + 1 from by omega]; exact decFrom_none he (part_short hc1 (by omega))
          have hE : wdE b = 14 := by rw [hwd, hN]
          refine region_wl ?_
          refine dr (.agg #[(iI 0), Zn, Zn, Zn, Zn]) (ex_build (bmap0) (by kernel_rfl)) ?_
          simp only [pq]
          refine sW 1 S43 (size_27) fun w92 S93 => ?_
          refine dy ?_
          refine wl_nil (hK91 _ _ ?_)
          refine wp_ret ?_
          (try simp only [Exit.then, Exit.inBlock, ↓reduceIte, Nat.reduceEqDiff])
          refine bR (res_ct rfl ⟨_, rfl, lR S93 1 Tryz.underlying27 (size_27)⟩ (gD rfl)) ?_
          ·exact ⟨_, _, rfl, S93.gr, decQ_bad hE (by decide)⟩
         ·refine lssF ?_
          refine dp ?_
          simp only [pq]
          refine wl_nil (hK83 _ _ ?_)
          refine wp_cond_false rfl ?_
          refine wp_skip ?_
          refine hK82 _ _ ?_
          refine sk fun K94 hK94 => ?_
          refine dx ?_
          refine dr (pP b87 (o88 + 0 * 1)) (ex_at (i := 0) (sz := 1) Tryz.underlying25 (sizeof_5 _) rfl ha89 rfl (by omega) rfl) ?_
          refine dr _ (ex_load rfl (load1 (nagg_5 _) (St.fz S43 c90))) ?_
          simp only [pq]
          refine dr (nI c1.toNat) (ex_convert (v := (bv c1)) rfl (conv_int c1 _)) ?_
          refine dAdd (1 + c1.toNat) ?_
          refine dy ?_
          simp only [pq]
          refine wn hK94 ?_
          refine sk fun K95 hK95 => ?_
          iterate 3 refine dx ?_
          simp only [pq]
          have r96 : Bs _ (.slice ra (1 + c1.toNat) rc) (rest.take (1 + c1.toNat)) := bs_of_sl (Sl.takeN (m := (1 + c1.toNat)) (Bs.sl hrest) (by omega))
          have r96 : Bs _ (.slice (if rc = 1 then ra else ra.map (·.add (1 * 1))) ((1 + c1.toNat) - 1) (rc - 1)) ((rest.take (1 + c1.toNat)).drop 1) := Bs.rest r96 (by omega)
          refine dr (.slice (if rc = 1 then ra else ra.map (·.add (1 * 1))) ((1 + c1.toNat) - 1) (rc - 1)) (ex_slice (l := 1) (h := (1 + c1.toNat)) (sz := 1) Tryz.underlying25 rfl (sizeof_5 _) (.inr ⟨_, rfl, rfl⟩) (.inr ⟨_, rfl, rfl⟩) (by omega) (by omega) (rfl)) ?_
          refine stGives S43 rfl (fn1 (ent_45 _ _)) (clone_spec _ _ _ ((rest.take (1 + c1.toNat)).drop 1) (S43).sat r96 (by simp only [List.length_drop, List.length_take]; omega)) ?_
          intro v102 w97 F99 S98 le100 R101
          obtain ⟨xa103, xc104, rfl, _⟩ := R101.shape
          refine di ?_
          refine sW 0 S98 (size_25) fun w105 S106 => ?_
          simp only [pq]
          refine wn hK95 ?_
          refine region_wl ?_
          iterate 2 refine dx ?_
          simp only [pq]
          have r107 : Bs _ (.slice (if rc = (1 + c1.toNat) then ra else ra.map (·.add ((1 + c1.toNat) * 1))) (rn - (1 + c1.toNat)) (rc - (1 + c1.toNat))) (rest.drop (1 + c1.toNat)) := Bs.rest (hrest.mono le100) (by omega)
          refine dr (.slice (if rc = (1 + c1.toNat) then ra else ra.map (·.add ((1 + c1.toNat) * 1))) (rn - (1 + c1.toNat)) (rc - (1 + c1.toNat))) (ex_slice (l := (1 + c1.toNat)) (h := rn) (sz := 1) Tryz.underlying25 rfl (sizeof_5 _) (.inr ⟨_, rfl, rfl⟩) (.inl ⟨rfl, rfl⟩) (by omega) (by omega) (rfl)) ?_
          refine dy ?_
          refine wl_nil (hK48 _ _ ?_)
          refine region_wl ?_
          refine dAdd (i + 1) ?_
          refine dx ?_
          simp only [pq]
          refine wl_nil ?_
          exact hK45 _ _ _ (by omega) ⟨(i + 1), (⟨r.name, ((rest.take (1 + c1.toNat)).drop 1), r.last, r.value⟩ : Rq), a0, e0, xa103, xc104, a2, e2, a3, e3, (if rc = (1 + c1.toNat) then ra else ra.map (·.add ((1 + c1.toNat) * 1))), (rn - (1 + c1.toNat)), (rc - (1 + c1.toNat)), (rest.drop (1 + c1.toNat)), F99, _, rfl, rfl, rfl, S106, (le44.trans le100), (by omega), (hf0.mono le100), R101, (hf2.mono le100), (hf3.mono le100), r107, (by simp only [List.length_drop]; omega), (by subst h4; rw [← hinv]; exact (decFrom_some (n := 2) he (part_long hc1 (by omega))).symm)⟩
       ·have he : (hasN c0.toNat).testBit i = false := by simpa using he
        have hx := bit_no he
        have hrn := hrest.len
        have hcap : rest.length ≤ rc := by obtain ⟨_, _, e, q, _⟩ := hrest.shape; injection e with _ _ e; rw [e]; exact q
        refine region_wl ?_
        refine dx ?_
        refine dr (pP n20 2) (ex_indexV (i := i) Tryz.underlying151 (sizeof_150 _) rfl rfl (by omega) (nagg_150 _) (by rw [h4]; rfl)) ?_
        refine dy ?_
        simp only [pq]
        refine dy ?_
        refine wl_nil (hK49 _ _ ?_)
        refine wp_seq_k (fun K108 hK108 => ?_)
        refine sk fun K109 hK109 => ?_
        refine df (fa_27_0 _ _) ?_
        refine dl (nagg_3 _) S43 0 ?_
        refine dr (pP 0 (c0.toNat)) (ex_atArr (i := c0.toNat) Tryz.underlying92 (sizeof_3 _) rfl rfl (by omega)) ?_
        simp only [pq]
        refine dr _ (ex_load rfl (load1 (nagg_3 _) (has_at (hh.below S43.gr.below) hk))) ?_
        refine dx ?_
        refine dr (nI ((hasN c0.toNat) / 2 ^ i)) (ex_shrI (m := (hasN c0.toNat)) (n := i) rfl rfl (by omega)) ?_
        simp only [pq]
        refine dr (.int .i64 (((((hasN c0.toNat) / 2 ^ i) % 2) : Nat) : Int)) (ex_andOne (m := ((hasN c0.toNat) / 2 ^ i)) rfl rfl) ?_
        refine dr bT (ex_eql (m := (((((hasN c0.toNat) / 2 ^ i) % 2) : Nat) : Int)) (n := (0 : Int)) (b := true) rfl rfl (beq_iff_eq.2 (by rw [hx]; rfl))) ?_
        refine wn hK109 ?_
        refine wp_cond_true rfl ?_
        refine wp_exit ?_
        refine hK48 _ _ ?_
        refine region_wl ?_
        refine dAdd (i + 1) ?_
        refine dx ?_
        simp only [pq]
        refine wl_nil ?_
        exact hK45 _ _ _ (by omega) ⟨(i + 1), r, a0, e0, a1, e1, a2, e2, a3, e3, ra, rn, rc, rest, F37, _, rfl, rfl, rfl, S43, le44, (by omega), hf0, hf1, hf2, hf3, hrest, (by omega), (by subst h4; rw [← hinv]; exact (decFrom_no (n := 2) he).symm)⟩
      ·by_cases he : (hasN c0.toNat).testBit i = true
       ·have hx := bit_yes he
        have hrn := hrest.len
        have hcap : rest.length ≤ rc := by obtain ⟨_, _, e, q, _⟩ := hrest.shape; injection e with _ _ e; rw [e]; exact q
        refine region_wl ?_
        refine dx ?_
        refine dr (pP n20 3) (ex_indexV (i := i) Tryz.underlying151 (sizeof_150 _) rfl rfl (by omega) (nagg_150 _) (by rw [h4]; rfl)) ?_
        refine dy ?_
        simp only [pq]
        refine dy ?_
        refine wl_nil (hK49 _ _ ?_)
        refine wp_seq_k (fun K110 hK110 => ?_)
        refine sk fun K111 hK111 => ?_
        refine df (fa_27_0 _ _) ?_
        refine dl (nagg_3 _) S43 0 ?_
        refine dr (pP 0 (c0.toNat)) (ex_atArr (i := c0.toNat) Tryz.underlying92 (sizeof_3 _) rfl rfl (by omega)) ?_
        simp only [pq]
        refine dr _ (ex_load rfl (load1 (nagg_3 _) (has_at (hh.below S43.gr.below) hk))) ?_
        refine dx ?_
        refine dr (nI ((hasN c0.toNat) / 2 ^ i)) (ex_shrI (m := (hasN c0.toNat)) (n := i) rfl rfl (by omega)) ?_
        simp only [pq]
        refine dr (.int .i64 (((((hasN c0.toNat) / 2 ^ i) % 2) : Nat) : Int)) (ex_andOne (m := ((hasN c0.toNat) / 2 ^ i)) rfl rfl) ?_
        refine dr bF (ex_eql (m := (((((hasN c0.toNat) / 2 ^ i) % 2) : Nat) : Int)) (n := (0 : Int)) (b := false) rfl rfl (beq_eq_false_iff_ne.2 (by rw [hx]; decide))) ?_
        refine wn hK111 ?_
        refine wp_cond_false rfl ?_
        refine wp_skip ?_
        refine hK110 _ _ ?_
        refine wp_seq_k (fun K112 hK112 => ?_)
        refine wp_seq_k (fun K113 hK113 => ?_)
        by_cases hz : rest.length = 0
        ·refine region_wl ?_
         refine dx ?_
         refine dn Tryz.underlying25 ?_
         refine eqlT ?_
         simp only [pq]
         refine dx ?_
         iterate 2 refine nO ?_
         simp only [pq]
         iterate 3 refine nO ?_
         simp only [pq]
         iterate 3 refine nO ?_
         simp only [pq]
         refine dp ?_
         refine wl_nil (hK113 _ _ ?_)
         refine wp_cond_true rfl ?_
         refine wp_seq_k (fun K114 hK114 => ?_)
         have hN : decW (hasN c0.toNat) (b.drop 1) = none := by rw [← hinv, show 4 - i = (3 - i) + 1 from by omega]; exact decFrom_none he (part_nil hz)
         have hE : wdE b = 14 := by rw [hwd, hN]
         refine region_wl ?_
         refine dr (.agg #[(iI 0), Zn, Zn, Zn, Zn]) (ex_build (bmap0) (by kernel_rfl)) ?_
         refine sW 1 S43 (size_27) fun w115 S116 => ?_
         simp only [pq]
         refine dy ?_
         refine wl_nil (hK114 _ _ ?_)
         refine wp_ret ?_
         (try simp only [Exit.then, Exit.inBlock, ↓reduceIte, Nat.reduceEqDiff])
         refine bR (res_ct rfl ⟨_, rfl, lR S116 1 Tryz.underlying27 (size_27)⟩ (gD rfl)) ?_
         ·exact ⟨_, _, rfl, S116.gr, decQ_bad hE (by decide)⟩
        ·obtain ⟨c1, hc1⟩ : ∃ c, rest[0]? = some c := ⟨rest[0], List.getElem?_eq_getElem (by omega)⟩
         have hb9 := UInt8.toNat_lt c1
         obtain ⟨b117, o118, ha119, c120⟩ := Bs.get hrest hc1
         refine region_wl ?_
         refine dx ?_
         refine dn Tryz.underlying25 ?_
         refine eqlF ?_
         simp only [pq]
         iterate 2 refine dx ?_
         refine dn Tryz.underlying25 ?_
         simp only [pq]
         refine dx ?_
         refine dr (pP b117 (o118 + 0 * 1)) (ex_at (i := 0) (sz := 1) Tryz.underlying25 (sizeof_5 _) rfl ha119 rfl (by omega) rfl) ?_
         refine dr _ (ex_load rfl (load1 (nagg_5 _) (St.fz S43 c120))) ?_
         simp only [pq]
         refine dr (nI c1.toNat) (ex_convert (v := (bv c1)) rfl (conv_int c1 _)) ?_
         refine dAdd (1 + c1.toNat) ?_
         simp only [pq]
         by_cases hc62 : rn < (1 + c1.toNat)
         ·refine lssT ?_
          refine dp ?_
          refine wl_nil (hK113 _ _ ?_)
          refine wp_cond_true rfl ?_
          refine wp_seq_k (fun K121 hK121 => ?_)
          have hN : decW (hasN c0.toNat) (b.drop 1) = none := by rw [← hinv, show 4 - i = (3 - i) + 1 from by omega]; exact decFrom_none he (part_short hc1 (by omega))
          have hE : wdE b = 14 := by rw [hwd, hN]
          refine region_wl ?_
          refine dr (.agg #[(iI 0), Zn, Zn, Zn, Zn]) (ex_build (bmap0) (by kernel_rfl)) ?_
          simp only [pq]
          refine sW 1 S43 (size_27) fun w122 S123 => ?_
          refine dy ?_
          refine wl_nil (hK121 _ _ ?_)
          refine wp_ret ?_
          (try simp only [Exit.then, Exit.inBlock, ↓reduceIte, Nat.reduceEqDiff])
          refine bR (res_ct rfl ⟨_, rfl, lR S123 1 Tryz.underlying27 (size_27)⟩ (gD rfl)) ?_
          ·exact ⟨_, _, rfl, S123.gr, decQ_bad hE (by decide)⟩
         ·refine lssF ?_
          refine dp ?_
          simp only [pq]
          refine wl_nil (hK113 _ _ ?_)
          refine wp_cond_false rfl ?_
          refine wp_skip ?_
          refine hK112 _ _ ?_
          refine sk fun K124 hK124 => ?_
          refine dx ?_
          refine dr (pP b117 (o118 + 0 * 1)) (ex_at (i := 0) (sz := 1) Tryz.underlying25 (sizeof_5 _) rfl ha119 rfl (by omega) rfl) ?_
          refine dr _ (ex_load rfl (load1 (nagg_5 _) (St.fz S43 c120))) ?_
          simp only [pq]
          refine dr (nI c1.toNat) (ex_convert (v := (bv c1)) rfl (conv_int c1 _)) ?_
          refine dAdd (1 + c1.toNat) ?_
          refine dy ?_
          simp only [pq]
          refine wn hK124 ?_
          refine sk fun K125 hK125 => ?_
          iterate 3 refine dx ?_
          simp only [pq]
          have r126 : Bs _ (.slice ra (1 + c1.toNat) rc) (rest.take (1 + c1.toNat)) := bs_of_sl (Sl.takeN (m := (1 + c1.toNat)) (Bs.sl hrest) (by omega))
          have r126 : Bs _ (.slice (if rc = 1 then ra else ra.map (·.add (1 * 1))) ((1 + c1.toNat) - 1) (rc - 1)) ((rest.take (1 + c1.toNat)).drop 1) := Bs.rest r126 (by omega)
          refine dr (.slice (if rc = 1 then ra else ra.map (·.add (1 * 1))) ((1 + c1.toNat) - 1) (rc - 1)) (ex_slice (l := 1) (h := (1 + c1.toNat)) (sz := 1) Tryz.underlying25 rfl (sizeof_5 _) (.inr ⟨_, rfl, rfl⟩) (.inr ⟨_, rfl, rfl⟩) (by omega) (by omega) (rfl)) ?_
          refine stGives S43 rfl (fn1 (ent_45 _ _)) (clone_spec _ _ _ ((rest.take (1 + c1.toNat)).drop 1) (S43).sat r126 (by simp only [List.length_drop, List.length_take]; omega)) ?_
          intro v132 w127 F129 S128 le130 R131
          obtain ⟨xa133, xc134, rfl, _⟩ := R131.shape
          refine di ?_
          refine sW 0 S128 (size_25) fun w135 S136 => ?_
          simp only [pq]
          refine wn hK125 ?_
          refine region_wl ?_
          iterate 2 refine dx ?_
          simp only [pq]
          have r137 : Bs _ (.slice (if rc = (1 + c1.toNat) then ra else ra.map (·.add ((1 + c1.toNat) * 1))) (rn - (1 + c1.toNat)) (rc - (1 + c1.toNat))) (rest.drop (1 + c1.toNat)) := Bs.rest (hrest.mono le130) (by omega)
          refine dr (.slice (if rc = (1 + c1.toNat) then ra else ra.map (·.add ((1 + c1.toNat) * 1))) (rn - (1 + c1.toNat)) (rc - (1 + c1.toNat))) (ex_slice (l := (1 + c1.toNat)) (h := rn) (sz := 1) Tryz.underlying25 rfl (sizeof_5 _) (.inr ⟨_, rfl, rfl⟩) (.inl ⟨rfl, rfl⟩) (by omega) (by omega) (rfl)) ?_
          refine dy ?_
          refine wl_nil (hK48 _ _ ?_)
          refine region_wl ?_
          refine dAdd (i + 1) ?_
          refine dx ?_
          simp only [pq]
          refine wl_nil ?_
          exact hK45 _ _ _ (by omega) ⟨(i + 1), (⟨r.name, r.key, ((rest.take (1 + c1.toNat)).drop 1), r.value⟩ : Rq), a0, e0, a1, e1, xa133, xc134, a3, e3, (if rc = (1 + c1.toNat) then ra else ra.map (·.add ((1 + c1.toNat) * 1))), (rn - (1 + c1.toNat)), (rc - (1 + c1.toNat)), (rest.drop (1 + c1.toNat)), F129, _, rfl, rfl, rfl, S136, (le44.trans le130), (by omega), (hf0.mono le130), (hf1.mono le130), R131, (hf3.mono le130), r137, (by simp only [List.length_drop]; omega), (by subst h4; rw [← hinv]; exact (decFrom_some (n := 1) he (part_long hc1 (by omega))).symm)⟩
       ·have he : (hasN c0.toNat).testBit i = false := by simpa using he
        have hx := bit_no he
        have hrn := hrest.len
        have hcap : rest.length ≤ rc := by obtain ⟨_, _, e, q, _⟩ := hrest.shape; injection e with _ _ e; rw [e]; exact q
        refine region_wl ?_
        refine dx ?_
        refine dr (pP n20 3) (ex_indexV (i := i) Tryz.underlying151 (sizeof_150 _) rfl rfl (by omega) (nagg_150 _) (by rw [h4]; rfl)) ?_
        refine dy ?_
        simp only [pq]
        refine dy ?_
        refine wl_nil (hK49 _ _ ?_)
        refine wp_seq_k (fun K138 hK138 => ?_)
        refine sk fun K139 hK139 => ?_
        refine df (fa_27_0 _ _) ?_
        refine dl (nagg_3 _) S43 0 ?_
        refine dr (pP 0 (c0.toNat)) (ex_atArr (i := c0.toNat) Tryz.underlying92 (sizeof_3 _) rfl rfl (by omega)) ?_
        simp only [pq]
        refine dr _ (ex_load rfl (load1 (nagg_3 _) (has_at (hh.below S43.gr.below) hk))) ?_
        refine dx ?_
        refine dr (nI ((hasN c0.toNat) / 2 ^ i)) (ex_shrI (m := (hasN c0.toNat)) (n := i) rfl rfl (by omega)) ?_
        simp only [pq]
        refine dr (.int .i64 (((((hasN c0.toNat) / 2 ^ i) % 2) : Nat) : Int)) (ex_andOne (m := ((hasN c0.toNat) / 2 ^ i)) rfl rfl) ?_
        refine dr bT (ex_eql (m := (((((hasN c0.toNat) / 2 ^ i) % 2) : Nat) : Int)) (n := (0 : Int)) (b := true) rfl rfl (beq_iff_eq.2 (by rw [hx]; rfl))) ?_
        refine wn hK139 ?_
        refine wp_cond_true rfl ?_
        refine wp_exit ?_
        refine hK48 _ _ ?_
        refine region_wl ?_
        refine dAdd (i + 1) ?_
        refine dx ?_
        simp only [pq]
        refine wl_nil ?_
        exact hK45 _ _ _ (by omega) ⟨(i + 1), r, a0, e0, a1, e1, a2, e2, a3, e3, ra, rn, rc, rest, F37, _, rfl, rfl, rfl, S43, le44, (by omega), hf0, hf1, hf2, hf3, hrest, (by omega), (by subst h4; rw [← hinv]; exact (decFrom_no (n := 1) he).symm)⟩
      ·by_cases he : (hasN c0.toNat).testBit i = true
       ·have hx := bit_yes he
        have hrn := hrest.len
        have hcap : rest.length ≤ rc := by obtain ⟨_, _, e, q, _⟩ := hrest.shape; injection e with _ _ e; rw [e]; exact q
        refine region_wl ?_
        refine dx ?_
        refine dr (pP n20 4) (ex_indexV (i := i) Tryz.underlying151 (sizeof_150 _) rfl rfl (by omega) (nagg_150 _) (by rw [h4]; rfl)) ?_
        refine dy ?_
        simp only [pq]
        refine dy ?_
        refine wl_nil (hK49 _ _ ?_)
        refine wp_seq_k (fun K140 hK140 => ?_)
        refine sk fun K141 hK141 => ?_
        refine df (fa_27_0 _ _) ?_
        refine dl (nagg_3 _) S43 0 ?_
        refine dr (pP 0 (c0.toNat)) (ex_atArr (i := c0.toNat) Tryz.underlying92 (sizeof_3 _) rfl rfl (by omega)) ?_
        simp only [pq]
        refine dr _ (ex_load rfl (load1 (nagg_3 _) (has_at (hh.below S43.gr.below) hk))) ?_
        refine dx ?_
        refine dr (nI ((hasN c0.toNat) / 2 ^ i)) (ex_shrI (m := (hasN c0.toNat)) (n := i) rfl rfl (by omega)) ?_
        simp only [pq]
        refine dr (.int .i64 (((((hasN c0.toNat) / 2 ^ i) % 2) : Nat) : Int)) (ex_andOne (m := ((hasN c0.toNat) / 2 ^ i)) rfl rfl) ?_
        refine dr bF (ex_eql (m := (((((hasN c0.toNat) / 2 ^ i) % 2) : Nat) : Int)) (n := (0 : Int)) (b := false) rfl rfl (beq_eq_false_iff_ne.2 (by rw [hx]; decide))) ?_
        refine wn hK141 ?_
        refine wp_cond_false rfl ?_
        refine wp_skip ?_
        refine hK140 _ _ ?_
        refine wp_seq_k (fun K142 hK142 => ?_)
        refine wp_seq_k (fun K143 hK143 => ?_)
        by_cases hz : rest.length = 0
        ·refine region_wl ?_
         refine dx ?_
         refine dn Tryz.underlying25 ?_
         refine eqlT ?_
         simp only [pq]
         refine dx ?_
         iterate 2 refine nO ?_
         simp only [pq]
         iterate 3 refine nO ?_
         simp only [pq]
         iterate 3 refine nO ?_
         simp only [pq]
         refine dp ?_
         refine wl_nil (hK143 _ _ ?_)
         refine wp_cond_true rfl ?_
         refine wp_seq_k (fun K144 hK144 => ?_)
         have hN : decW (hasN c0.toNat) (b.drop 1) = none := by rw [← hinv, show 4 - i = (3 - i) + 1 from by omega]; exact decFrom_none he (part_nil hz)
         have hE : wdE b = 14 := by rw [hwd, hN]
         refine region_wl ?_
         refine dr (.agg #[(iI 0), Zn, Zn, Zn, Zn]) (ex_build (bmap0) (by kernel_rfl)) ?_
         refine sW 1 S43 (size_27) fun w145 S146 => ?_
         simp only [pq]
         refine dy ?_
         refine wl_nil (hK144 _ _ ?_)
         refine wp_ret ?_
         (try simp only [Exit.then, Exit.inBlock, ↓reduceIte, Nat.reduceEqDiff])
         refine bR (res_ct rfl ⟨_, rfl, lR S146 1 Tryz.underlying27 (size_27)⟩ (gD rfl)) ?_
         ·exact ⟨_, _, rfl, S146.gr, decQ_bad hE (by decide)⟩
        ·obtain ⟨c1, hc1⟩ : ∃ c, rest[0]? = some c := ⟨rest[0], List.getElem?_eq_getElem (by omega)⟩
         have hb9 := UInt8.toNat_lt c1
         obtain ⟨b147, o148, ha149, c150⟩ := Bs.get hrest hc1
         refine region_wl ?_
         refine dx ?_
         refine dn Tryz.underlying25 ?_
         refine eqlF ?_
         simp only [pq]
         iterate 2 refine dx ?_
         refine dn Tryz.underlying25 ?_
         simp only [pq]
         refine dx ?_
         refine dr (pP b147 (o148 + 0 * 1)) (ex_at (i := 0) (sz := 1) Tryz.underlying25 (sizeof_5 _) rfl ha149 rfl (by omega) rfl) ?_
         refine dr _ (ex_load rfl (load1 (nagg_5 _) (St.fz S43 c150))) ?_
         simp only [pq]
         refine dr (nI c1.toNat) (ex_convert (v := (bv c1)) rfl (conv_int c1 _)) ?_
         refine dAdd (1 + c1.toNat) ?_
         simp only [pq]
         by_cases hc62 : rn < (1 + c1.toNat)
         ·refine lssT ?_
          refine dp ?_
          refine wl_nil (hK143 _ _ ?_)
          refine wp_cond_true rfl ?_
          refine wp_seq_k (fun K151 hK151 => ?_)
          have hN : decW (hasN c0.toNat) (b.drop 1) = none := by rw [← hinv, show 4 - i = (3 - i) + 1 from by omega]; exact decFrom_none he (part_short hc1 (by omega))
          have hE : wdE b = 14 := by rw [hwd, hN]
          refine region_wl ?_
          refine dr (.agg #[(iI 0), Zn, Zn, Zn, Zn]) (ex_build (bmap0) (by kernel_rfl)) ?_
          simp only [pq]
          refine sW 1 S43 (size_27) fun w152 S153 => ?_
          refine dy ?_
          refine wl_nil (hK151 _ _ ?_)
          refine wp_ret ?_
          (try simp only [Exit.then, Exit.inBlock, ↓reduceIte, Nat.reduceEqDiff])
          refine bR (res_ct rfl ⟨_, rfl, lR S153 1 Tryz.underlying27 (size_27)⟩ (gD rfl)) ?_
          ·exact ⟨_, _, rfl, S153.gr, decQ_bad hE (by decide)⟩
         ·refine lssF ?_
          refine dp ?_
          simp only [pq]
          refine wl_nil (hK143 _ _ ?_)
          refine wp_cond_false rfl ?_
          refine wp_skip ?_
          refine hK142 _ _ ?_
          refine sk fun K154 hK154 => ?_
          refine dx ?_
          refine dr (pP b147 (o148 + 0 * 1)) (ex_at (i := 0) (sz := 1) Tryz.underlying25 (sizeof_5 _) rfl ha149 rfl (by omega) rfl) ?_
          refine dr _ (ex_load rfl (load1 (nagg_5 _) (St.fz S43 c150))) ?_
          simp only [pq]
          refine dr (nI c1.toNat) (ex_convert (v := (bv c1)) rfl (conv_int c1 _)) ?_
          refine dAdd (1 + c1.toNat) ?_
          refine dy ?_
          simp only [pq]
          refine wn hK154 ?_
          refine sk fun K155 hK155 => ?_
          iterate 3 refine dx ?_
          simp only [pq]
          have r156 : Bs _ (.slice ra (1 + c1.toNat) rc) (rest.take (1 + c1.toNat)) := bs_of_sl (Sl.takeN (m := (1 + c1.toNat)) (Bs.sl hrest) (by omega))
          have r156 : Bs _ (.slice (if rc = 1 then ra else ra.map (·.add (1 * 1))) ((1 + c1.toNat) - 1) (rc - 1)) ((rest.take (1 + c1.toNat)).drop 1) := Bs.rest r156 (by omega)
          refine dr (.slice (if rc = 1 then ra else ra.map (·.add (1 * 1))) ((1 + c1.toNat) - 1) (rc - 1)) (ex_slice (l := 1) (h := (1 + c1.toNat)) (sz := 1) Tryz.underlying25 rfl (sizeof_5 _) (.inr ⟨_, rfl, rfl⟩) (.inr ⟨_, rfl, rfl⟩) (by omega) (by omega) (rfl)) ?_
          refine stGives S43 rfl (fn1 (ent_45 _ _)) (clone_spec _ _ _ ((rest.take (1 + c1.toNat)).drop 1) (S43).sat r156 (by simp only [List.length_drop, List.length_take]; omega)) ?_
          intro v162 w157 F159 S158 le160 R161
          obtain ⟨xa163, xc164, rfl, _⟩ := R161.shape
          refine di ?_
          refine sW 0 S158 (size_25) fun w165 S166 => ?_
          simp only [pq]
          refine wn hK155 ?_
          refine region_wl ?_
          iterate 2 refine dx ?_
          simp only [pq]
          have r167 : Bs _ (.slice (if rc = (1 + c1.toNat) then ra else ra.map (·.add ((1 + c1.toNat) * 1))) (rn - (1 + c1.toNat)) (rc - (1 + c1.toNat))) (rest.drop (1 + c1.toNat)) := Bs.rest (hrest.mono le160) (by omega)
          refine dr (.slice (if rc = (1 + c1.toNat) then ra else ra.map (·.add ((1 + c1.toNat) * 1))) (rn - (1 + c1.toNat)) (rc - (1 + c1.toNat))) (ex_slice (l := (1 + c1.toNat)) (h := rn) (sz := 1) Tryz.underlying25 rfl (sizeof_5 _) (.inr ⟨_, rfl, rfl⟩) (.inl ⟨rfl, rfl⟩) (by omega) (by omega) (rfl)) ?_
          refine dy ?_
          refine wl_nil (hK48 _ _ ?_)
          refine region_wl ?_
          refine dAdd (i + 1) ?_
          refine dx ?_
          simp only [pq]
          refine wl_nil ?_
          exact hK45 _ _ _ (by omega) ⟨(i + 1), (⟨r.name, r.key, r.last, ((rest.take (1 + c1.toNat)).drop 1)⟩ : Rq), a0, e0, a1, e1, a2, e2, xa163, xc164, (if rc = (1 + c1.toNat) then ra else ra.map (·.add ((1 + c1.toNat) * 1))), (rn - (1 + c1.toNat)), (rc - (1 + c1.toNat)), (rest.drop (1 + c1.toNat)), F159, _, rfl, rfl, rfl, S166, (le44.trans le160), (by omega), (hf0.mono le160), (hf1.mono le160), (hf2.mono le160), R161, r167, (by simp only [List.length_drop]; omega), (by subst h4; rw [← hinv]; exact (decFrom_some (n := 0) he (part_long hc1 (by omega))).symm)⟩
       ·have he : (hasN c0.toNat).testBit i = false := by simpa using he
        have hx := bit_no he
        have hrn := hrest.len
        have hcap : rest.length ≤ rc := by obtain ⟨_, _, e, q, _⟩ := hrest.shape; injection e with _ _ e; rw [e]; exact q
        refine region_wl ?_
        refine dx ?_
        refine dr (pP n20 4) (ex_indexV (i := i) Tryz.underlying151 (sizeof_150 _) rfl rfl (by omega) (nagg_150 _) (by rw [h4]; rfl)) ?_
        refine dy ?_
        simp only [pq]
        refine dy ?_
        refine wl_nil (hK49 _ _ ?_)
        refine wp_seq_k (fun K168 hK168 => ?_)
        refine sk fun K169 hK169 => ?_
        refine df (fa_27_0 _ _) ?_
        refine dl (nagg_3 _) S43 0 ?_
        refine dr (pP 0 (c0.toNat)) (ex_atArr (i := c0.toNat) Tryz.underlying92 (sizeof_3 _) rfl rfl (by omega)) ?_
        simp only [pq]
        refine dr _ (ex_load rfl (load1 (nagg_3 _) (has_at (hh.below S43.gr.below) hk))) ?_
        refine dx ?_
        refine dr (nI ((hasN c0.toNat) / 2 ^ i)) (ex_shrI (m := (hasN c0.toNat)) (n := i) rfl rfl (by omega)) ?_
        simp only [pq]
        refine dr (.int .i64 (((((hasN c0.toNat) / 2 ^ i) % 2) : Nat) : Int)) (ex_andOne (m := ((hasN c0.toNat) / 2 ^ i)) rfl rfl) ?_
        refine dr bT (ex_eql (m := (((((hasN c0.toNat) / 2 ^ i) % 2) : Nat) : Int)) (n := (0 : Int)) (b := true) rfl rfl (beq_iff_eq.2 (by rw [hx]; rfl))) ?_
        refine wn hK169 ?_
        refine wp_cond_true rfl ?_
        refine wp_exit ?_
        refine hK48 _ _ ?_
        refine region_wl ?_
        refine dAdd (i + 1) ?_
        refine dx ?_
        simp only [pq]
        refine wl_nil ?_
        exact hK45 _ _ _ (by omega) ⟨(i + 1), r, a0, e0, a1, e1, a2, e2, a3, e3, ra, rn, rc, rest, F37, _, rfl, rfl, rfl, S43, le44, (by omega), hf0, hf1, hf2, hf3, hrest, (by omega), (by subst h4; rw [← hinv]; exact (decFrom_no (n := 0) he).symm)⟩
     ·refine lssF ?_
      refine wn hK46 ?_
      refine wp_seq_k (fun K170 hK170 => ?_)
      refine wp_cond_false rfl ?_
      refine wp_exit ?_
      refine hK35 _ _ ?_
      refine wp_seq_k (fun K171 hK171 => ?_)
      refine wp_seq_k (fun K172 hK172 => ?_)
      have hrn := hrest.len
      have hi5 : i = 4 := by omega
      have hD : decW (hasN c0.toNat) (b.drop 1) = some (r, rest) := by rw [← hinv, hi5]; rfl
      rw [hD] at hwd
      have hwd : wdE b = if 0 < rest.length then 4 else wireN c0.toNat r.name.length r.key.length r.last.length r.value.length := hwd
      refine region_wl ?_
      refine dx ?_
      refine dn Tryz.underlying25 ?_
      simp only [pq]
      by_cases hc82 : 0 < rn
      ·refine gtrT ?_
       refine wl_nil (hK172 _ _ ?_)
       refine wp_cond_true rfl ?_
       refine wp_seq_k (fun K173 hK173 => ?_)
       have hE : wdE b = 4 := by rw [hwd, if_pos (by omega)]
       refine region_wl ?_
       refine dr (.agg #[(iI 0), Zn, Zn, Zn, Zn]) (ex_build (bmap0) (by kernel_rfl)) ?_
       refine sW 1 S43 (size_27) fun w174 S175 => ?_
       simp only [pq]
       refine dy ?_
       refine wl_nil (hK173 _ _ ?_)
       refine wp_ret ?_
       (try simp only [Exit.then, Exit.inBlock, ↓reduceIte, Nat.reduceEqDiff])
       refine bR (res_ct rfl ⟨_, rfl, lR S175 1 Tryz.underlying27 (size_27)⟩ (gD rfl)) ?_
       ·exact ⟨_, _, rfl, S175.gr, decQ_bad hE (by decide)⟩
      ·refine gtrF ?_
       refine wl_nil (hK172 _ _ ?_)
       refine wp_cond_false rfl ?_
       refine wp_skip ?_
       refine hK171 _ _ ?_
       refine wp_seq_k (fun K176 hK176 => ?_)
       refine wp_seq_k (fun K177 hK177 => ?_)
       rw [if_neg (by omega)] at hwd
       refine region_wl ?_
       refine dR S43 0 Tryz.underlying27 (size_27) ?_
       simp only [pq]
       refine stTells (v := (.int .i64 (wireN c0.toNat r.name.length r.key.length r.last.length r.value.length))) S43 rfl (fn1 (ent_41 _ _)) (wireCheck_spec _ _ _ c0.toNat r.name r.key r.last r.value (by omega) (by omega) (hh.below S43.gr.below) ⟨_, _, _, _, rfl, hf0, hf1, hf2, hf3⟩) (fun w178 S179 => ?_)
       refine dy ?_
       refine wl_nil (hK177 _ _ ?_)
       refine sk fun K180 hK180 => ?_
       refine dx ?_
       simp only [pq]
       by_cases hc87 : (wireN c0.toNat r.name.length r.key.length r.last.length r.value.length) = (0 : Int)
       ·refine neqF ?_
        refine wn hK180 ?_
        refine wp_cond_false rfl ?_
        refine wp_skip ?_
        refine hK176 _ _ ?_
        refine sk fun K181 hK181 => ?_
        refine dR S179 0 Tryz.underlying27 (size_27) ?_
        refine sW 1 S179 (size_27) fun w182 S183 => ?_
        simp only [pq]
        refine dy ?_
        refine wn hK181 ?_
        refine wp_ret ?_
        (try simp only [Exit.then, Exit.inBlock, ↓reduceIte, Nat.reduceEqDiff])
        refine bR (res_ct rfl ⟨_, rfl, lR S183 1 Tryz.underlying27 (size_27)⟩ (gD rfl)) ?_
        ·exact ⟨_, _, rfl, S183.gr, by unfold DecQ; rw [wd_rq hc0 (hwd.trans (by omega)) hD, hwd.trans (show _ = (0 : Int) by omega)]; exact ⟨_, rfl, _, _, _, _, rfl, hf0, hf1, hf2, hf3⟩⟩
       ·refine neqT ?_
        refine wn hK180 ?_
        refine wp_cond_true rfl ?_
        refine sk fun K184 hK184 => ?_
        refine dr (.agg #[(iI 0), Zn, Zn, Zn, Zn]) (ex_build (bmap0) (by kernel_rfl)) ?_
        refine dx ?_
        simp only [pq]
        refine sW 1 S179 (size_27) fun w185 S186 => ?_
        refine dy ?_
        refine wn hK184 ?_
        refine wp_ret ?_
        (try simp only [Exit.then, Exit.inBlock, ↓reduceIte, Nat.reduceEqDiff])
        refine bR (res_ct rfl ⟨_, rfl, lR S186 1 Tryz.underlying27 (size_27)⟩ (gD rfl)) ?_
        ·exact ⟨_, _, rfl, S186.gr, decQ_bad hwd (by omega)⟩
theorem wireDecIs_spec (F : Fz) (w : World) (v : Value) (b : By) {e : Int} {k : Nat} {r : Rq} (hs : Sat w F) (hh : Has w) (hb : Bs F v b) (he : wdE b = e) (hr : wdR b = (k, r)) :
    Calls Tryz.prog 77 #[v] w (Gives w F fun F' u => ∃ x, u = .tuple #[x, .int .i64 e] ∧ ReqV F' x ((k : Nat) : Int) r.name r.key r.last r.value) := by
 have := wireDecode_spec F w v b hs hh hb
 unfold DecQ at this
 rw [he, hr] at this
 exact this
theorem rq_of {k : Nat} {r : Rq} (ok : RqOk k r) (hk : k = 2 ∨ k = 3 ∨ k = 4 ∨ k = 5) : (1 ≤ r.name.length ∧ r.name.length ≤ 8) ∧ (1 ≤ r.key.length ∧ r.key.length ≤ 16) ∧ r.value.length ≤ 32 ∧ (k ≠ 3 → r.last = []) ∧ (k = 3 → 1 ≤ r.last.length ∧ r.last.length ≤ 16) ∧ (k ≠ 4 → r.value = []) := by
 obtain ⟨a1, a2, a3, a4, a5, a6, a7, a8⟩ := parts_ok (h := hasN k) ok.fits
 have e0 : ∀ {l : By}, l.length = 0 → l = [] := fun h => List.eq_nil_of_length_eq_zero h
 rcases hk with rfl | rfl | rfl | rfl
 ·exact ⟨a1 rfl, a2 rfl, a4, fun _ => e0 (a7 rfl), fun h => by omega, fun _ => e0 (a8 rfl)⟩
 ·exact ⟨a1 rfl, a2 rfl, a4, fun h => absurd rfl h, fun _ => a3 rfl, fun _ => e0 (a8 rfl)⟩
 ·exact ⟨a1 rfl, a2 rfl, a4, fun _ => e0 (a7 rfl), fun h => by omega, fun h => absurd rfl h⟩
 ·exact ⟨a1 rfl, a2 rfl, a4, fun _ => e0 (a7 rfl), fun h => by omega, fun _ => e0 (a8 rfl)⟩
theorem rd_of {k : Nat} {r : Rq} {b : Bool} (ok : RqOk k r) (hk : (k = 2 ∧ b = false) ∨ (k = 3 ∧ b = true)) : RdOk ⟨r.name, r.key, b, r.last⟩ := by
 obtain ⟨h1, h2, h3, h4, h5, h6⟩ := rq_of ok (by omega)
 rcases hk with ⟨hk, rfl⟩ | ⟨hk, rfl⟩
 ·exact ⟨h1, h2, h4 (by omega)⟩
 ·exact ⟨h1, h2, h5 hk⟩
theorem wr_of {k : Nat} {r : Rq} {b : Bool} (ok : RqOk k r) (hk : (k = 4 ∧ b = false) ∨ (k = 5 ∧ b = true)) : WrOk ⟨r.name, r.key, b, r.value⟩ := by
 obtain ⟨h1, h2, h3, h4, h5, h6⟩ := rq_of ok (by omega)
 rcases hk with ⟨hk, rfl⟩ | ⟨hk, rfl⟩
 ·exact ⟨h1, h2.1, h2.2, h3, fun h => by cases h⟩
 ·exact ⟨h1, h2.1, h2.2, h3, fun _ => h6 (by omega)⟩
theorem note_one (r : Rd) : noteX nilX r = some ⟨0, [r], []⟩ := by simp [noteX, nilX]
theorem write_one (w : Wr) : writeX nilX w = some ⟨0, [], [w]⟩ := by simp [writeX, nilX, idxW]
def RdR (p : Rd) (e : Int) (F : Fz) (u : Value) : Prop := ∃ x, u = .tuple #[x, .int .i64 e] ∧ RdV F x p
def WrR (p : Wr) (e : Int) (F : Fz) (u : Value) : Prop := ∃ x, u = .tuple #[x, .int .i64 e] ∧ WrV F x p
theorem wireRead_yes (F : Fz) (w : World) (v : Value) (k : Nat) (r : Rq) {b : Bool} (hs : Sat w F) (hh : Has w) (hv : ReqV F v k r.name r.key r.last r.value) (ok : RqOk k r) (hb : (k = 2 ∧ b = false) ∨ (k = 3 ∧ b = true)) :
    Calls Tryz.prog 105 #[v] w (Gives w F (RdR ⟨r.name, r.key, b, r.last⟩ 0)) := by
 have hk := ok.kind
 obtain ⟨_, _, _, _, rfl, h0, h1, h2, h3⟩ := hv
 obtain ⟨x0, y0, rfl, _⟩ := h0.shape
 obtain ⟨x1, y1, rfl, _⟩ := h1.shape
 obtain ⟨x2, y2, rfl, _⟩ := h2.shape
 obtain ⟨x3, y3, rfl, _⟩ := h3.shape
 have S := St.start hs
 go_enter Tryz.func105, Tryz.ntmps105
 refine sk fun K1 hK1 => ?_
 refine stNew S (v := fun n => .pointer (aA n 0)) rfl (ex_box (v := (.agg #[(nI k), (.slice x0 r.name.length y0), (.slice x1 r.key.length y1), (.slice x2 r.last.length y2), (.slice x3 r.value.length y3)])) rfl) (fun n2 w3 S4 => ?_)
 refine sA S4 (zero_179 _) fun n5 w6 S7 => ?_
 refine dy ?_
 refine wn hK1 ?_
 refine wp_seq_k (fun K8 hK8 => ?_)
 refine sk fun K9 hK9 => ?_
 refine dR S7 1 Tryz.underlying27 (size_27) ?_
 simp only [pq]
 refine stTells (v := (iI 0)) S7 rfl (fn1 (ent_41 _ _)) (wireCheckOk_spec _ _ _ k r (hh.below S7.gr.below) ⟨_, _, _, _, rfl, h0, h1, h2, h3⟩ ok) (fun w10 S11 => ?_)
 refine dy ?_
 refine wn hK9 ?_
 refine sk fun K12 hK12 => ?_
 refine dx ?_
 refine dr bF (ex_neq (m := (0 : Int)) (n := (0 : Int)) (b := false) rfl rfl (bne_eq_false_iff_eq.2 (rfl))) ?_
 simp only [pq]
 refine wn hK12 ?_
 refine wp_cond_false rfl ?_
 refine wp_skip ?_
 refine hK8 _ _ ?_
 refine wp_seq_k (fun K13 hK13 => ?_)
 refine sk fun K14 hK14 => ?_
 refine df (fa_27_0 _ _) ?_
 refine dl (nagg_3 _) S11 1 ?_
 refine wn hK14 ?_
 refine wp_block ?_
 refine wp_seq_k (fun K15 hK15 => ?_)
 refine wp_seq_k (fun K16 hK16 => ?_)
 rcases hb with ⟨hk, rfl⟩ | ⟨hk, rfl⟩
 refine region_wl ?_
 refine eqlT ?_
 refine dy ?_
 simp only [pq]
 refine wl_nil (hK16 _ _ ?_)
 refine wp_cond_true rfl ?_
 refine wp_skip ?_
 refine hK15 _ _ ?_
 refine wp_cond_true rfl ?_
 refine sk fun K17 hK17 => ?_
 refine dr (.agg #[(iI 0), Zn, Zn]) (ex_build (bmap0) (by kernel_rfl)) ?_
 refine df (fa_27_1 _ _) ?_
 refine dl (nagg_25 _) S11 1 ?_
 simp only [pq]
 refine df (fa_27_2 _ _) ?_
 refine dl (nagg_25 _) S11 1 ?_
 refine df (fa_27_0 _ _) ?_
 simp only [pq]
 refine dl (nagg_3 _) S11 1 ?_
 refine eqlF ?_
 refine df (fa_27_3 _ _) ?_
 simp only [pq]
 refine dl (nagg_25 _) S11 1 ?_
 refine dr (.agg #[(.slice x0 r.name.length y0), (.slice x1 r.key.length y1), bF, (.slice x2 r.last.length y2)]) (ex_build (bmap4 rfl rfl rfl rfl) (by kernel_rfl)) ?_
 refine stGives S11 rfl (fn2 (ent_106 _ _)) (txnNoteIs_spec _ _ _ _ nilX (⟨r.name, r.key, false, r.last⟩ : Rd) (⟨0, [(⟨r.name, r.key, false, r.last⟩ : Rd)], []⟩ : Tx) (S11).sat (TxV.nil _) ⟨_, _, _, _, _, _, rfl, h0, h1, h2⟩ nilX_ok (rd_of ok (Or.inl ⟨hk, rfl⟩)) (note_one _)) ?_
 intro v23 w18 F20 S19 le21 R22
 obtain ⟨_, rfl, R24⟩ := R22
 obtain ⟨xa25, xc26, xa27, xc28, rfl, r29, r30⟩ := R24
 refine dx ?_
 iterate 2 refine de ?_
 simp only [pq]
 refine sA S19 (zero_141 _) fun n31 w32 S33 => ?_
 refine sW 0 S33 (size_141) fun w34 S35 => ?_
 refine dy ?_
 simp only [pq]
 refine wn hK17 ?_
 refine wp_seq_k (fun K36 hK36 => ?_)
 refine sk fun K37 hK37 => ?_
 refine dx ?_
 refine dr bF (ex_neq (m := (0 : Int)) (n := (0 : Int)) (b := false) rfl rfl (bne_eq_false_iff_eq.2 (rfl))) ?_
 refine wn hK37 ?_
 refine wp_cond_false rfl ?_
 refine wp_skip ?_
 refine hK36 _ _ ?_
 refine wp_seq_k (fun K38 hK38 => ?_)
 have hp : ((⟨0, [(⟨r.name, r.key, false, r.last⟩ : Rd)], []⟩ : Tx).reads)[0]? = some (⟨r.name, r.key, false, r.last⟩ : Rd) := rfl
 obtain ⟨b39, o40, ha41, xa43, xc44, xa47, xc48, xa52, xc53, c42, c46, c50, c51, r45, r49, r54⟩ := Rds.get r29 hp
 refine region_wl ?_
 refine df (fa_141_1 _ _) ?_
 refine dl (nagg_139 _) S35 0 ?_
 refine dr (pP b39 (o40 + 0 * 4)) (ex_at (i := 0) (sz := 4) Tryz.underlying139 (sizeof_179 _) rfl ha41 rfl (by show 0 < 1; omega) rfl) ?_
 simp only [pq]
 refine dr _ (ex_load rfl (loadM Tryz.underlying179 rfl (size_179) (range4 (St.fz S35 c42) (St.fz S35 c46) (St.fz S35 c50) (St.fz S35 c51)))) ?_
 refine sW 1 S35 (size_179) fun w55 S56 => ?_
 refine dy ?_
 simp only [pq]
 refine wl_nil (hK38 _ _ ?_)
 refine wp_ret ?_
 (try simp only [Exit.then, Exit.inBlock, ↓reduceIte, Nat.reduceEqDiff])
 refine bR (res_ct rfl ⟨_, rfl, lR S56 1 Tryz.underlying179 (size_179)⟩ (gD rfl)) ?_
 exact ⟨_, _, rfl, S56.gr, _, rfl, _, _, _, _, _, _, rfl, r45, r49, r54⟩
 refine region_wl ?_
 refine eqlF ?_
 refine dy ?_
 refine wl_nil (hK16 _ _ ?_)
 refine wp_cond_false rfl ?_
 refine region_wl ?_
 refine eqlT ?_
 refine dy ?_
 simp only [pq]
 refine wl_nil (hK15 _ _ ?_)
 refine wp_cond_true rfl ?_
 refine sk fun K57 hK57 => ?_
 refine dr (.agg #[(iI 0), Zn, Zn]) (ex_build (bmap0) (by kernel_rfl)) ?_
 refine df (fa_27_1 _ _) ?_
 refine dl (nagg_25 _) S11 1 ?_
 simp only [pq]
 refine df (fa_27_2 _ _) ?_
 refine dl (nagg_25 _) S11 1 ?_
 refine df (fa_27_0 _ _) ?_
 simp only [pq]
 refine dl (nagg_3 _) S11 1 ?_
 refine eqlT ?_
 refine df (fa_27_3 _ _) ?_
 simp only [pq]
 refine dl (nagg_25 _) S11 1 ?_
 refine dr (.agg #[(.slice x0 r.name.length y0), (.slice x1 r.key.length y1), bT, (.slice x2 r.last.length y2)]) (ex_build (bmap4 rfl rfl rfl rfl) (by kernel_rfl)) ?_
 refine stGives S11 rfl (fn2 (ent_106 _ _)) (txnNoteIs_spec _ _ _ _ nilX (⟨r.name, r.key, true, r.last⟩ : Rd) (⟨0, [(⟨r.name, r.key, true, r.last⟩ : Rd)], []⟩ : Tx) (S11).sat (TxV.nil _) ⟨_, _, _, _, _, _, rfl, h0, h1, h2⟩ nilX_ok (rd_of ok (Or.inr ⟨hk, rfl⟩)) (note_one _)) ?_
 intro v63 w58 F60 S59 le61 R62
 obtain ⟨_, rfl, R64⟩ := R62
 obtain ⟨xa65, xc66, xa67, xc68, rfl, r69, r70⟩ := R64
 refine dx ?_
 iterate 2 refine de ?_
 simp only [pq]
 refine sA S59 (zero_141 _) fun n71 w72 S73 => ?_
 refine sW 0 S73 (size_141) fun w74 S75 => ?_
 refine dy ?_
 simp only [pq]
 refine wn hK57 ?_
 refine wp_seq_k (fun K76 hK76 => ?_)
 refine sk fun K77 hK77 => ?_
 refine dx ?_
 refine dr bF (ex_neq (m := (0 : Int)) (n := (0 : Int)) (b := false) rfl rfl (bne_eq_false_iff_eq.2 (rfl))) ?_
 refine wn hK77 ?_
 refine wp_cond_false rfl ?_
 refine wp_skip ?_
 refine hK76 _ _ ?_
 refine wp_seq_k (fun K78 hK78 => ?_)
 have hp : ((⟨0, [(⟨r.name, r.key, true, r.last⟩ : Rd)], []⟩ : Tx).reads)[0]? = some (⟨r.name, r.key, true, r.last⟩ : Rd) := rfl
 obtain ⟨b79, o80, ha81, xa83, xc84, xa87, xc88, xa92, xc93, c82, c86, c90, c91, r85, r89, r94⟩ := Rds.get r69 hp
 refine region_wl ?_
 refine df (fa_141_1 _ _) ?_
 refine dl (nagg_139 _) S75 0 ?_
 refine dr (pP b79 (o80 + 0 * 4)) (ex_at (i := 0) (sz := 4) Tryz.underlying139 (sizeof_179 _) rfl ha81 rfl (by show 0 < 1; omega) rfl) ?_
 simp only [pq]
 refine dr _ (ex_load rfl (loadM Tryz.underlying179 rfl (size_179) (range4 (St.fz S75 c82) (St.fz S75 c86) (St.fz S75 c90) (St.fz S75 c91)))) ?_
 refine sW 1 S75 (size_179) fun w95 S96 => ?_
 refine dy ?_
 simp only [pq]
 refine wl_nil (hK78 _ _ ?_)
 refine wp_ret ?_
 (try simp only [Exit.then, Exit.inBlock, ↓reduceIte, Nat.reduceEqDiff])
 refine bR (res_ct rfl ⟨_, rfl, lR S96 1 Tryz.underlying179 (size_179)⟩ (gD rfl)) ?_
 exact ⟨_, _, rfl, S96.gr, _, rfl, _, _, _, _, _, _, rfl, r85, r89, r94⟩
theorem wireWrite_yes (F : Fz) (w : World) (v : Value) (k : Nat) (r : Rq) {b : Bool} (hs : Sat w F) (hh : Has w) (hv : ReqV F v k r.name r.key r.last r.value) (ok : RqOk k r) (hb : (k = 4 ∧ b = false) ∨ (k = 5 ∧ b = true)) :
    Calls Tryz.prog 93 #[v] w (Gives w F (WrR ⟨r.name, r.key, b, r.value⟩ 0)) := by
 have hk := ok.kind
 obtain ⟨_, _, _, _, rfl, h0, h1, h2, h3⟩ := hv
 obtain ⟨x0, y0, rfl, _⟩ := h0.shape
 obtain ⟨x1, y1, rfl, _⟩ := h1.shape
 obtain ⟨x2, y2, rfl, _⟩ := h2.shape
 obtain ⟨x3, y3, rfl, _⟩ := h3.shape
 have S := St.start hs
 go_enter Tryz.func93, Tryz.ntmps93
 refine sk fun K1 hK1 => ?_
 refine stNew S (v := fun n => .pointer (aA n 0)) rfl (ex_box (v := (.agg #[(nI k), (.slice x0 r.name.length y0), (.slice x1 r.key.length y1), (.slice x2 r.last.length y2), (.slice x3 r.value.length y3)])) rfl) (fun n2 w3 S4 => ?_)
 refine sA S4 (zero_39 _) fun n5 w6 S7 => ?_
 refine dy ?_
 refine wn hK1 ?_
 refine wp_seq_k (fun K8 hK8 => ?_)
 refine sk fun K9 hK9 => ?_
 refine dR S7 1 Tryz.underlying27 (size_27) ?_
 simp only [pq]
 refine stTells (v := (iI 0)) S7 rfl (fn1 (ent_41 _ _)) (wireCheckOk_spec _ _ _ k r (hh.below S7.gr.below) ⟨_, _, _, _, rfl, h0, h1, h2, h3⟩ ok) (fun w10 S11 => ?_)
 refine dy ?_
 refine wn hK9 ?_
 refine sk fun K12 hK12 => ?_
 refine dx ?_
 refine dr bF (ex_neq (m := (0 : Int)) (n := (0 : Int)) (b := false) rfl rfl (bne_eq_false_iff_eq.2 (rfl))) ?_
 simp only [pq]
 refine wn hK12 ?_
 refine wp_cond_false rfl ?_
 refine wp_skip ?_
 refine hK8 _ _ ?_
 refine wp_seq_k (fun K13 hK13 => ?_)
 refine sk fun K14 hK14 => ?_
 refine df (fa_27_0 _ _) ?_
 refine dl (nagg_3 _) S11 1 ?_
 refine wn hK14 ?_
 refine wp_block ?_
 refine wp_seq_k (fun K15 hK15 => ?_)
 refine wp_seq_k (fun K16 hK16 => ?_)
 rcases hb with ⟨hk, rfl⟩ | ⟨hk, rfl⟩
 refine region_wl ?_
 refine eqlT ?_
 refine dy ?_
 simp only [pq]
 refine wl_nil (hK16 _ _ ?_)
 refine wp_cond_true rfl ?_
 refine wp_skip ?_
 refine hK15 _ _ ?_
 refine wp_cond_true rfl ?_
 refine sk fun K17 hK17 => ?_
 refine dr (.agg #[(iI 0), Zn, Zn]) (ex_build (bmap0) (by kernel_rfl)) ?_
 refine df (fa_27_1 _ _) ?_
 refine dl (nagg_25 _) S11 1 ?_
 simp only [pq]
 refine df (fa_27_2 _ _) ?_
 refine dl (nagg_25 _) S11 1 ?_
 refine df (fa_27_0 _ _) ?_
 simp only [pq]
 refine dl (nagg_3 _) S11 1 ?_
 refine eqlF ?_
 refine df (fa_27_4 _ _) ?_
 simp only [pq]
 refine dl (nagg_25 _) S11 1 ?_
 refine dr (.agg #[(.slice x0 r.name.length y0), (.slice x1 r.key.length y1), bF, (.slice x3 r.value.length y3)]) (ex_build (bmap4 rfl rfl rfl rfl) (by kernel_rfl)) ?_
 refine stGives S11 rfl (fn2 (ent_94 _ _)) (txnWriteIs_spec _ _ _ _ nilX (⟨r.name, r.key, false, r.value⟩ : Wr) (⟨0, [], [(⟨r.name, r.key, false, r.value⟩ : Wr)]⟩ : Tx) (S11).sat (TxV.nil _) ⟨_, _, _, _, _, _, rfl, h0, h1, h3⟩ nilX_ok (wr_of ok (Or.inl ⟨hk, rfl⟩)) (write_one _)) ?_
 intro v23 w18 F20 S19 le21 R22
 obtain ⟨_, rfl, R24⟩ := R22
 obtain ⟨xa25, xc26, xa27, xc28, rfl, r29, r30⟩ := R24
 refine dx ?_
 iterate 2 refine de ?_
 simp only [pq]
 refine sA S19 (zero_141 _) fun n31 w32 S33 => ?_
 refine sW 0 S33 (size_141) fun w34 S35 => ?_
 refine dy ?_
 simp only [pq]
 refine wn hK17 ?_
 refine wp_seq_k (fun K36 hK36 => ?_)
 refine sk fun K37 hK37 => ?_
 refine dx ?_
 refine dr bF (ex_neq (m := (0 : Int)) (n := (0 : Int)) (b := false) rfl rfl (bne_eq_false_iff_eq.2 (rfl))) ?_
 refine wn hK37 ?_
 refine wp_cond_false rfl ?_
 refine wp_skip ?_
 refine hK36 _ _ ?_
 refine wp_seq_k (fun K38 hK38 => ?_)
 have hp : ((⟨0, [], [(⟨r.name, r.key, false, r.value⟩ : Wr)]⟩ : Tx).writes)[0]? = some (⟨r.name, r.key, false, r.value⟩ : Wr) := rfl
 obtain ⟨b39, o40, ha41, xa43, xc44, xa47, xc48, xa52, xc53, c42, c46, c50, c51, r45, r49, r54⟩ := Wrs.get r30 hp
 refine region_wl ?_
 refine df (fa_141_2 _ _) ?_
 refine dl (nagg_40 _) S35 0 ?_
 refine dr (pP b39 (o40 + 0 * 4)) (ex_at (i := 0) (sz := 4) Tryz.underlying40 (sizeof_39 _) rfl ha41 rfl (by show 0 < 1; omega) rfl) ?_
 simp only [pq]
 refine dr _ (ex_load rfl (loadM Tryz.underlying39 rfl (size_39) (range4 (St.fz S35 c42) (St.fz S35 c46) (St.fz S35 c50) (St.fz S35 c51)))) ?_
 refine sW 1 S35 (size_39) fun w55 S56 => ?_
 refine dy ?_
 simp only [pq]
 refine wl_nil (hK38 _ _ ?_)
 refine wp_ret ?_
 (try simp only [Exit.then, Exit.inBlock, ↓reduceIte, Nat.reduceEqDiff])
 refine bR (res_ct rfl ⟨_, rfl, lR S56 1 Tryz.underlying39 (size_39)⟩ (gD rfl)) ?_
 exact ⟨_, _, rfl, S56.gr, _, rfl, _, _, _, _, _, _, rfl, r45, r49, r54⟩
 refine region_wl ?_
 refine eqlF ?_
 refine dy ?_
 refine wl_nil (hK16 _ _ ?_)
 refine wp_cond_false rfl ?_
 refine region_wl ?_
 refine eqlT ?_
 refine dy ?_
 simp only [pq]
 refine wl_nil (hK15 _ _ ?_)
 refine wp_cond_true rfl ?_
 refine sk fun K57 hK57 => ?_
 refine dr (.agg #[(iI 0), Zn, Zn]) (ex_build (bmap0) (by kernel_rfl)) ?_
 refine df (fa_27_1 _ _) ?_
 refine dl (nagg_25 _) S11 1 ?_
 simp only [pq]
 refine df (fa_27_2 _ _) ?_
 refine dl (nagg_25 _) S11 1 ?_
 refine df (fa_27_0 _ _) ?_
 simp only [pq]
 refine dl (nagg_3 _) S11 1 ?_
 refine eqlT ?_
 refine df (fa_27_4 _ _) ?_
 simp only [pq]
 refine dl (nagg_25 _) S11 1 ?_
 refine dr (.agg #[(.slice x0 r.name.length y0), (.slice x1 r.key.length y1), bT, (.slice x3 r.value.length y3)]) (ex_build (bmap4 rfl rfl rfl rfl) (by kernel_rfl)) ?_
 refine stGives S11 rfl (fn2 (ent_94 _ _)) (txnWriteIs_spec _ _ _ _ nilX (⟨r.name, r.key, true, r.value⟩ : Wr) (⟨0, [], [(⟨r.name, r.key, true, r.value⟩ : Wr)]⟩ : Tx) (S11).sat (TxV.nil _) ⟨_, _, _, _, _, _, rfl, h0, h1, h3⟩ nilX_ok (wr_of ok (Or.inr ⟨hk, rfl⟩)) (write_one _)) ?_
 intro v63 w58 F60 S59 le61 R62
 obtain ⟨_, rfl, R64⟩ := R62
 obtain ⟨xa65, xc66, xa67, xc68, rfl, r69, r70⟩ := R64
 refine dx ?_
 iterate 2 refine de ?_
 simp only [pq]
 refine sA S59 (zero_141 _) fun n71 w72 S73 => ?_
 refine sW 0 S73 (size_141) fun w74 S75 => ?_
 refine dy ?_
 simp only [pq]
 refine wn hK57 ?_
 refine wp_seq_k (fun K76 hK76 => ?_)
 refine sk fun K77 hK77 => ?_
 refine dx ?_
 refine dr bF (ex_neq (m := (0 : Int)) (n := (0 : Int)) (b := false) rfl rfl (bne_eq_false_iff_eq.2 (rfl))) ?_
 refine wn hK77 ?_
 refine wp_cond_false rfl ?_
 refine wp_skip ?_
 refine hK76 _ _ ?_
 refine wp_seq_k (fun K78 hK78 => ?_)
 have hp : ((⟨0, [], [(⟨r.name, r.key, true, r.value⟩ : Wr)]⟩ : Tx).writes)[0]? = some (⟨r.name, r.key, true, r.value⟩ : Wr) := rfl
 obtain ⟨b79, o80, ha81, xa83, xc84, xa87, xc88, xa92, xc93, c82, c86, c90, c91, r85, r89, r94⟩ := Wrs.get r70 hp
 refine region_wl ?_
 refine df (fa_141_2 _ _) ?_
 refine dl (nagg_40 _) S75 0 ?_
 refine dr (pP b79 (o80 + 0 * 4)) (ex_at (i := 0) (sz := 4) Tryz.underlying40 (sizeof_39 _) rfl ha81 rfl (by show 0 < 1; omega) rfl) ?_
 simp only [pq]
 refine dr _ (ex_load rfl (loadM Tryz.underlying39 rfl (size_39) (range4 (St.fz S75 c82) (St.fz S75 c86) (St.fz S75 c90) (St.fz S75 c91)))) ?_
 refine sW 1 S75 (size_39) fun w95 S96 => ?_
 refine dy ?_
 simp only [pq]
 refine wl_nil (hK78 _ _ ?_)
 refine wp_ret ?_
 (try simp only [Exit.then, Exit.inBlock, ↓reduceIte, Nat.reduceEqDiff])
 refine bR (res_ct rfl ⟨_, rfl, lR S96 1 Tryz.underlying39 (size_39)⟩ (gD rfl)) ?_
 exact ⟨_, _, rfl, S96.gr, _, rfl, _, _, _, _, _, _, rfl, r85, r89, r94⟩
theorem ret_int {k : IntKind} {a b : Int} (h : a = b) : Ending.returned (.int k a) = .returned (.int k b) := by rw [h]
/-- What lines.Check tells of an act. -/
def actN (kind sess keep : Int) (n : Nat) : Int :=
  if kind < 1 ∨ 4 < kind then 5 else if (kind = 1 ∧ (sess < 0 ∨ 8 ≤ sess)) ∨ (kind = 3 ∧ (keep < 0 ∨ 200000 < keep)) then 2
  else if 4000 < n then 1 else if (kind ≠ 1 ∧ (sess ≠ 0 ∨ 0 < n)) ∨ (kind ≠ 3 ∧ keep ≠ 0) then 4 else 0
theorem actCheck_spec (w : World) (kind sess keep : Int) (a : Option Addr) (n c : Nat) (hn : n ≤ 9223372036854775807) :
    Calls Tryz.prog 51 #[.agg #[.int .i64 kind, .int .i64 sess, .int .i64 keep, .slice a n c]] w (Tells w (.int .i64 (actN kind sess keep n))) := by
 have HA : Hid (actN kind sess keep n = if kind < 1 ∨ 4 < kind then 5 else if (kind = 1 ∧ (sess < 0 ∨ 8 ≤ sess)) ∨ (kind = 3 ∧ (keep < 0 ∨ 200000 < keep)) then 2
  else if 4000 < n then 1 else if (kind ≠ 1 ∧ (sess ≠ 0 ∨ 0 < n)) ∨ (kind ≠ 3 ∧ keep ≠ 0) then 4 else 0) := rfl
 generalize actN kind sess keep n = r at *
 go_enter Tryz.func51, Tryz.ntmps51
 go_wp2_with fail
 all_goals
  go_ret
  refine ⟨?_, (Below.refl _ _).alloc (Nat.le_refl _) _⟩
  have h := HA.out
  clear HA
  try simp only [bne_iff_ne, ne_eq, bne_eq_false_iff_eq] at *
  refine ret_int (Eq.symm (h.trans ?_))
  first | rw [if_pos (by omega)] | rw [if_neg (by omega), if_pos (by omega)] | rw [if_neg (by omega), if_neg (by omega), if_pos (by omega)] | rw [if_neg (by omega), if_neg (by omega), if_neg (by omega), if_pos (by omega)] | rw [if_neg (by omega), if_neg (by omega), if_neg (by omega), if_neg (by omega)]
open Go.ChangeShapes Go.WideShapes Go.ChangeAt Go.RowKit
def roundsZ : List Int := [1, 32898, 9223372036854808714, 9223372039002292224, 32907, 2147483649, 9223372039002292353, 9223372036854808585, 138, 136, 2147516425, 2147483658, 2147516555, 9223372036854775947, 9223372036854808713, 9223372036854808579, 9223372036854808578, 9223372036854775936, 32778, 9223372039002259466, 9223372039002292353, 9223372036854808704, 2147483649, 9223372039002292232]
theorem gRounds : Tryz.prog.globalNamed "canopy/digest.rounds" = some 4 := by kernel_rfl
theorem gRoundsType : (Tryz.prog.globals[(4 : Nat)]?).map (·.type) = some 218 := by kernel_rfl
theorem gRoundsCells : Tryz.prog.cellsOf 218 = 24 := by kernel_rfl
theorem gRoundsOne : Tryz.prog.cellsOf 215 = 1 := by kernel_rfl
def goesZ : List Int := [10, 7, 11, 17, 18, 3, 5, 16, 8, 21, 24, 4, 15, 23, 19, 13, 12, 2, 20, 14, 22, 9, 6, 1]
theorem gGoes : Tryz.prog.globalNamed "canopy/digest.goes" = some 2 := by kernel_rfl
theorem gGoesType : (Tryz.prog.globals[(2 : Nat)]?).map (·.type) = some 235 := by kernel_rfl
theorem gGoesCells : Tryz.prog.cellsOf 235 = 24 := by kernel_rfl
theorem gGoesOne : Tryz.prog.cellsOf 3 = 1 := by kernel_rfl
def turnsZ : List Int := [1, 3, 6, 10, 15, 21, 28, 36, 45, 55, 2, 14, 27, 41, 56, 8, 25, 43, 62, 18, 39, 61, 20, 44]
theorem gTurns : Tryz.prog.globalNamed "canopy/digest.turns" = some 3 := by kernel_rfl
theorem gTurnsType : (Tryz.prog.globals[(3 : Nat)]?).map (·.type) = some 235 := by kernel_rfl
theorem gTurnsCells : Tryz.prog.cellsOf 235 = 24 := by kernel_rfl
theorem gTurnsOne : Tryz.prog.cellsOf 3 = 1 := by kernel_rfl
theorem goes_are : ∀ i, i < 24 → goesZ.getD i 0 = (goesN i : Int) := by decide +kernel
theorem turns_are : ∀ i, i < 24 → turnsZ.getD i 0 = (turnsN i : Int) := by decide +kernel
theorem rounds_are : ∀ i, i < 24 → roundsZ.getD i 0 = lane (roundB i) := by unfold lane; decide +kernel
theorem tab_at {W : World} {name : String} {k : IntKind} {zs : List Int} {g : Nat} (h : Lib.TabIs Tryz.prog W name k zs) (hg : Tryz.prog.globalNamed name = some g) {n : Nat} (hn : zs.length = n) {i : Nat} (hi : i < n) : W.cell? ⟨g, i, none⟩ = some (.int k (zs.getD i 0)) := by
 have hi' : i < zs.length := by omega
 have := h.cell hg i hi'
 exact this.trans (by simp [List.getD, hi'])
def setCells (cs : Array Value) : Obj → Obj
  | .cells _ t frozen => .cells cs t frozen
  | o => o
noncomputable def digWorld (os : Os) : World :=
  { World.holding Tryz.prog os ⟨#[], #[], []⟩ with heap := (((World.holding Tryz.prog os ⟨#[], #[], []⟩).heap.modify 4 (setCells #[.int .u64 1, .int .u64 32898, .int .u64 9223372036854808714, .int .u64 9223372039002292224, .int .u64 32907, .int .u64 2147483649, .int .u64 9223372039002292353, .int .u64 9223372036854808585, .int .u64 138, .int .u64 136, .int .u64 2147516425, .int .u64 2147483658, .int .u64 2147516555, .int .u64 9223372036854775947, .int .u64 9223372036854808713, .int .u64 9223372036854808579, .int .u64 9223372036854808578, .int .u64 9223372036854775936, .int .u64 32778, .int .u64 9223372039002259466, .int .u64 9223372039002292353, .int .u64 9223372036854808704, .int .u64 2147483649, .int .u64 9223372039002292232])).modify 2 (setCells #[.int .i64 10, .int .i64 7, .int .i64 11, .int .i64 17, .int .i64 18, .int .i64 3, .int .i64 5, .int .i64 16, .int .i64 8, .int .i64 21, .int .i64 24, .int .i64 4, .int .i64 15, .int .i64 23, .int .i64 19, .int .i64 13, .int .i64 12, .int .i64 2, .int .i64 20, .int .i64 14, .int .i64 22, .int .i64 9, .int .i64 6, .int .i64 1])).modify 3 (setCells #[.int .i64 1, .int .i64 3, .int .i64 6, .int .i64 10, .int .i64 15, .int .i64 21, .int .i64 28, .int .i64 36, .int .i64 45, .int .i64 55, .int .i64 2, .int .i64 14, .int .i64 27, .int .i64 41, .int .i64 56, .int .i64 8, .int .i64 25, .int .i64 43, .int .i64 62, .int .i64 18, .int .i64 39, .int .i64 61, .int .i64 20, .int .i64 44]) }
/-- A reply. -/
structure Rep where
  s : Nat
  code : Int
  turn : Int
  found : Bool
  value : By
  pairs : List Pr
  root : By
  outer : Prf
  inner : Prf
def nilP : Prf := ⟨false, [], ([], [])⟩
def repC (s : Nat) (e : Int) : Rep := ⟨s, e, 0, false, [], [], [], nilP, nilP⟩
def repT (s : Nat) (t : Int) : Rep := ⟨s, 0, t, false, [], [], [], nilP, nilP⟩
structure Eng where
  up : Bool
  tape : Tp
  commits : List Cm
  forests : List Forest
  synced : Nat
  txn : Nat → Option Tx
  waits : Nat → Bool
  waiting : List Nat
  replies : List Rep
def updN {α : Type} (f : Nat → α) (s : Nat) (x : α) : Nat → α := fun i => if i = s then x else f i
theorem updN_same {α : Type} (f : Nat → α) (s : Nat) (x : α) : updN f s x s = x := by simp [updN]
theorem updN_other {α : Type} (f : Nat → α) {s i : Nat} (h : i ≠ s) (x : α) : updN f s x i = f i := by simp [updN, h]
namespace Eng
def reply (g : Eng) (r : Rep) : Eng := { g with replies := g.replies ++ [r] }
def setTxn (g : Eng) (s : Nat) (t : Option Tx) : Eng := { g with txn := updN g.txn s t }
def forest (g : Eng) (k : Nat) : Forest := g.forests.getD k []
def prove (g : Eng) (s : Nat) (r : Rq) : Eng :=
  let f := g.forest g.synced
  g.reply ⟨s, 0, g.synced, (getF f r.name r.key).isSome, (getF f r.name r.key).getD [], [], rootF f, proveT (rootsF f) r.name, proveT (treeF f r.name) r.key⟩
def note (g : Eng) (s : Nat) (t : Tx) (r : Rd) (y : Rep) : Eng := match noteX t r with
  | none => g.reply (repC s 11)
  | some u => (g.setTxn s (some u)).reply y
def put (g : Eng) (s : Nat) (t : Tx) (w : Wr) : Eng := match writeX t w with
  | none => g.reply (repC s 11)
  | some u => (g.setTxn s (some u)).reply (repC s 0)
def look (g : Eng) (s : Nat) (t : Tx) (r : Rq) : Eng :=
  let o := lookX (g.forest t.start.toNat) t r.name r.key
  let y : Rep := ⟨s, 0, t.start, o.1.isSome, o.1.getD [], [], [], nilP, nilP⟩
  if o.2 then g.reply y else g.note s t ⟨r.name, r.key, false, r.last⟩ y
def scan (g : Eng) (s : Nat) (t : Tx) (r : Rq) : Eng := match scanX (g.forest t.start.toNat) t r.name r.key r.last with
  | none => g.reply (repC s 11)
  | some l => g.note s t ⟨r.name, r.key, true, r.last⟩ ⟨s, 0, t.start, false, [], l, [], nilP, nilP⟩
def stand (g : Eng) (s : Nat) (t : Tx) (f : Forest) : Eng := { g with
  tape := ⟨g.tape.data ++ frameB ⟨g.commits.length + 1, t.writes⟩, g.tape.synced⟩
  commits := g.commits ++ [⟨g.commits.length + 1, t.writes⟩]
  forests := g.forests ++ [f]
  txn := updN g.txn s none
  waits := updN g.waits s true
  waiting := g.waiting ++ [s] }
def commit (g : Eng) (s : Nat) (t : Tx) : Eng :=
  if t.writes = [] then (g.setTxn s none).reply (repT s t.start)
  else if g.commits.length - g.synced = 6 ∨ g.commits.length = 300 then g.reply (repC s 11)
  else if clashX t.start t.reads g.commits then (g.setTxn s none).reply (repC s 9)
  else match applyF (g.forest g.commits.length) t.writes with
    | none => (g.setTxn s none).reply (repC s 11)
    | some f => g.stand s t f
def work (g : Eng) (s : Nat) (t : Tx) (k : Nat) (r : Rq) : Eng :=
  if k = 2 then g.look s t r else if k = 3 then g.scan s t r else if k = 6 then g.commit s t
  else g.put s t ⟨r.name, r.key, k == 5, r.value⟩
def keptB (n : Nat) (t : Int) : Bool := decide (0 ≤ t) && decide (t ≤ n) && decide (n - t < 6)
/-- A request that is one, of a server that is up. -/
def req (g : Eng) (s : Nat) (k : Nat) (r : Rq) : Eng :=
  if k = 8 then g.prove s r
  else if g.waits s then g.reply (repC s 6)
  else match g.txn s with
    | none => if k = 1 then (g.setTxn s (some ⟨g.synced, [], []⟩)).reply (repT s g.synced) else g.reply (repC s 6)
    | some t => if k = 1 then g.reply (repC s 6)
      else if k = 7 then (g.setTxn s none).reply (repC s 0)
      else if keptB g.synced t.start then g.work s t k r
      else (g.setTxn s none).reply (repC s 10)
def ask (g : Eng) (s : Nat) (b : By) : Eng :=
  if g.up then (if wdE b = 0 then g.req s (wdR b).1 (wdR b).2 else g.reply (repC s (wdE b))) else g.reply (repC s 13)
def told : List Nat → Eng → Eng
  | [], g => g
  | s :: l, g => told l { g with synced := g.synced + 1, waits := updN g.waits s false, replies := g.replies ++ [repT s (g.synced + 1 : Nat)] }
def sync (g : Eng) : Eng := if g.up then { told g.waiting { g with tape := ⟨g.tape.data, g.tape.data.length⟩ } with waiting := [] } else g
def crash (g : Eng) (k : Nat) : Eng := if g.up then
    let n := crashN g.tape k
    let x := recT (g.tape.data.take n)
    { g with up := false, tape := ⟨(g.tape.data.take n).take x.2, min n x.2⟩, commits := x.1, forests := g.forests.take (x.1.length + 1), synced := x.1.length, txn := fun _ => none, waits := fun _ => false, waiting := [] }
  else g
def start (g : Eng) : Eng := { g with up := true }
end Eng
inductive Ac where
  | ask (s : Nat) (b : By)
  | sync
  | crash (k : Nat)
  | start
def Eng.act (g : Eng) : Ac → Eng
  | .ask s b => g.ask s b
  | .sync => g.sync
  | .crash k => g.crash k
  | .start => g.start
def eng0 : Eng := ⟨true, ⟨[], 0⟩, [], [[]], 0, fun _ => none, fun _ => false, [], []⟩
def runE (l : List Ac) : Eng := l.foldl Eng.act eng0
theorem runE_append (a b : List Ac) : runE (a ++ b) = b.foldl Eng.act (runE a) := List.foldl_append
def AcOk : Ac → Prop
  | .ask s b => s < 8 ∧ b.length ≤ 4000
  | .crash k => k ≤ 100000
  | _ => True
/-- An act that may make a commit. -/
def isC : Ac → Bool
  | .ask _ b => wdE b == 0 && (wdR b).1 == 6
  | _ => false
/-- What holds of a server. -/
structure EngOk (m : Nat) (g : Eng) : Prop where
  hist : HistOk (sizeC g.commits) g.commits
  many : g.commits.length ≤ m
  states : g.forests.length = g.commits.length + 1
  state : ∀ k, k ≤ g.commits.length → g.forest k = stateC g.commits k
  ok : ∀ k, k ≤ g.commits.length → ForestOk 60 (stateC g.commits k)
  data : g.tape.data = tapeB g.commits
  safe : g.tape.synced = (tapeB (g.commits.take g.synced)).length
  sync : g.commits.length = g.synced + g.waiting.length
  six : g.waiting.length ≤ 6
  txns : ∀ s t, g.txn s = some t → TxOk t ∧ t.start ≤ g.synced
  who : ∀ s ∈ g.waiting, s < 8
theorem EngOk.mono {m n : Nat} {g : Eng} (h : EngOk m g) (hn : m ≤ n) : EngOk n g := { h with many := Nat.le_trans h.many hn }
theorem EngOk.reply {m : Nat} {g : Eng} (h : EngOk m g) (r : Rep) : EngOk m (g.reply r) := ⟨h.hist, h.many, h.states, h.state, h.ok, h.data, h.safe, h.sync, h.six, h.txns, h.who⟩
theorem EngOk.setTxn {m : Nat} {g : Eng} (h : EngOk m g) (s : Nat) {t : Option Tx} (ht : ∀ u, t = some u → TxOk u ∧ u.start ≤ g.synced) : EngOk m (g.setTxn s t) := by
 refine ⟨h.hist, h.many, h.states, h.state, h.ok, h.data, h.safe, h.sync, h.six, fun i u hu => ?_, h.who⟩
 by_cases e : i = s
 subst e
 simp only [Eng.setTxn, updN_same] at hu
 exact ht u hu
 simp only [Eng.setTxn, updN_other _ e] at hu
 exact h.txns i u hu
theorem EngOk.setNone {m : Nat} {g : Eng} (h : EngOk m g) (s : Nat) : EngOk m (g.setTxn s none) := h.setTxn s (fun u hu => by cases hu)
theorem EngOk.note {m : Nat} {g : Eng} (h : EngOk m g) {s : Nat} {t : Tx} (ht : TxOk t ∧ t.start ≤ g.synced) {r : Rd} (hr : RdOk r) (y : Rep) : EngOk m (g.note s t r y) := by
 unfold Eng.note
 cases e : noteX t r with
 | none => exact h.reply _
 | some u =>
  refine (h.setTxn s (fun v hv => ?_)).reply _
  cases hv
  exact ⟨noteX_ok ht.1 hr e, by rw [(noteX_len e).2.2]; exact ht.2⟩
theorem EngOk.put {m : Nat} {g : Eng} (h : EngOk m g) {s : Nat} {t : Tx} (ht : TxOk t ∧ t.start ≤ g.synced) {w : Wr} (hw : WrOk w) : EngOk m (g.put s t w) := by
 unfold Eng.put
 cases e : writeX t w with
 | none => exact h.reply _
 | some u =>
  refine (h.setTxn s (fun v hv => ?_)).reply _
  cases hv
  exact ⟨writeX_ok ht.1 hw e, by rw [(writeX_len e).2.2.1]; exact ht.2⟩
theorem wr_len {t : Tx} (ht : TxOk t) (h : t.writes ≠ []) : 1 ≤ t.writes.length := by
 cases e : t.writes with
 | nil => exact absurd e h
 | cons a l => simp
theorem EngOk.commit {m : Nat} {g : Eng} (h : EngOk m g) (hm : m ≤ 1000) {s : Nat} (hs : s < 8) {t : Tx} (ht : TxOk t ∧ t.start ≤ g.synced) : EngOk (m + 1) (g.commit s t) := by
 have h1 := h.mono (Nat.le_succ m)
 unfold Eng.commit
 split
 exact (h1.setNone s).reply _
 split
 exact h1.reply _
 split
 exact (h1.setNone s).reply _
 rename_i hw hq hc
 cases e : applyF (g.forest g.commits.length) t.writes with
 | none => exact (h1.setNone s).reply _
 | some f =>
  have hn := h.many
  have hy := h.sync
  simp only
  rw [h.state _ (Nat.le_refl _)] at e
  have hk := h.hist.snoc ht.1.writes (wr_len ht.1 hw) ht.1.nw (Nat.le_refl _) (by omega) e
  have hsz : sizeC (g.commits ++ [⟨g.commits.length + 1, t.writes⟩]) = sizeC g.commits + t.writes.length := by simp [sizeC_append, sizeC]
  have hof : ForestOk 60 f := by
   have := applyR_ok ht.1.writes (f := stateC g.commits g.commits.length)
   rw [e] at this
   have h2 := applyR_ok60 (h.ok _ (Nat.le_refl _)) (ws := t.writes) (by rw [this])
   rw [this] at h2
   exact h2
  have hst : ∀ k, k ≤ g.commits.length → stateC (g.commits ++ [⟨g.commits.length + 1, t.writes⟩]) k = stateC g.commits k := fun k hk => by
   unfold stateC; rw [List.take_append_of_le_length hk]
  unfold Eng.stand
  refine ⟨by rw [hsz]; exact hk.1, by simp; omega, by simp [h.states], fun k hk' => ?_, fun k hk' => ?_, ?_, ?_, ?_, ?_, fun i u hu => ?_, fun i hi => ?_⟩
  simp only [List.length_append, List.length_singleton] at hk'
  by_cases ek : k = g.commits.length + 1
  subst ek
  simp only [hk.2]
  unfold Eng.forest
  simp [List.getD, h.states]
  simp only [hst k (by omega)]
  rw [← h.state k (by omega)]
  unfold Eng.forest
  simp only [List.getD]
  rw [List.getElem?_append_left (by rw [h.states]; omega)]
  simp only [List.length_append, List.length_singleton] at hk'
  by_cases ek : k = g.commits.length + 1
  subst ek; simp only [hk.2]; exact hof
  simp only [hst k (by omega)]; exact h.ok k (by omega)
  simp only [tapeB_append, h.data]
  simp [tapeB]
  simp only
  rw [List.take_append_of_le_length (by omega)]
  exact h.safe
  simp; omega
  have := h.six
  simp only [not_or] at hq
  simp; omega
  simp only at hu
  by_cases ei : i = s
  subst ei; rw [updN_same] at hu; cases hu
  rw [updN_other _ ei] at hu; exact h.txns i u hu
  simp only [List.mem_append, List.mem_singleton] at hi
  rcases hi with hi | rfl
  exact h.who i hi
  exact hs
def tellsR : List Nat → Nat → List Rep
  | [], _ => []
  | s :: l, n => repT s ((n + 1 : Nat) : Int) :: tellsR l (n + 1)
theorem told_is : ∀ (l : List Nat) (g : Eng), Eng.told l g = { g with synced := g.synced + l.length, waits := fun i => if i ∈ l then false else g.waits i, replies := g.replies ++ tellsR l g.synced }
  | [], g => by simp [Eng.told, tellsR]
  | s :: l, g => by
    rw [Eng.told, told_is l]
    simp only [tellsR, List.length_cons, List.append_assoc, List.singleton_append, Eng.mk.injEq, true_and, and_true]
    refine ⟨by omega, ?_⟩
    funext i
    by_cases e : i = s
    · subst e; simp [updN]
    · simp [updN, e]
theorem sync_is {g : Eng} (h : g.up = true) : g.sync = { g with tape := ⟨g.tape.data, g.tape.data.length⟩, synced := g.synced + g.waiting.length, waits := fun i => if i ∈ g.waiting then false else g.waits i, waiting := [], replies := g.replies ++ tellsR g.waiting g.synced } := by
 unfold Eng.sync
 rw [if_pos h, told_is]
theorem EngOk.syncs {m : Nat} {g : Eng} (h : EngOk m g) : EngOk m g.sync := by
 cases hu : g.up with
 | false => unfold Eng.sync; rw [hu]; exact h
 | true =>
  rw [sync_is hu]
  have := h.sync
  exact ⟨h.hist, h.many, h.states, h.state, h.ok, h.data, by simp only; rw [h.data, List.take_of_length_le (by omega)], by simp; omega, by simp, fun s t ht => ⟨(h.txns s t ht).1, by have := (h.txns s t ht).2; simp only; omega⟩, by simp⟩
theorem HistOk.own {m : Nat} {cs : List Cm} (h : HistOk m cs) : HistOk (sizeC cs) cs := { h with size := Nat.le_refl _ }
theorem crashN_le {t : Tp} (h : t.synced ≤ t.data.length) (k : Nat) : t.synced ≤ crashN t k ∧ crashN t k ≤ t.data.length := by unfold crashN; omega
theorem take_wholeP {cs : List Cm} (hok : ∀ c ∈ cs, CmOk c) {n : Nat} (hn : n ≤ (tapeB cs).length) : ((tapeB cs).take n).take (tapeB (cs.take (wholeN cs n))).length = tapeB (cs.take (wholeN cs n)) := by
 obtain ⟨t, h1, _⟩ := take_tape cs n 0 hok hn
 rw [h1, List.take_left' rfl]
theorem EngOk.syn {m : Nat} {g : Eng} (h : EngOk m g) : g.tape.synced ≤ g.tape.data.length := by
 rw [h.safe, h.data]
 have e : tapeB g.commits = tapeB (g.commits.take g.synced) ++ tapeB (g.commits.drop g.synced) := by rw [← tapeB_append, List.take_append_drop]
 rw [e, List.length_append]; omega
/-- What is left behind a crash: so many commits. -/
def Eng.left (g : Eng) (k : Nat) : Nat := wholeN g.commits (crashN g.tape k)
theorem crash_is {m : Nat} {g : Eng} (h : EngOk m g) (hu : g.up = true) (k : Nat) : g.crash k = { g with up := false, tape := ⟨tapeB (g.commits.take (g.left k)), (tapeB (g.commits.take (g.left k))).length⟩, commits := g.commits.take (g.left k), forests := g.forests.take (g.left k + 1), synced := g.left k, txn := fun _ => none, waits := fun _ => false, waiting := [] } := by
 have hn := (crashN_le h.syn k).2
 have hr := rec_tape h.hist (n := crashN g.tape k) (by rw [← h.data]; exact hn)
 have ht := take_wholeP h.hist.ok (n := crashN g.tape k) (by rw [← h.data]; exact hn)
 have hw := whole_len g.commits (crashN g.tape k)
 have hl := wholeN_le g.commits (crashN g.tape k)
 unfold Eng.crash
 rw [if_pos hu]
 simp only
 rw [show g.tape.data.take (crashN g.tape k) = (tapeB g.commits).take (crashN g.tape k) from by rw [h.data], hr]
 simp only [ht]
 have e : (g.commits.take (wholeN g.commits (crashN g.tape k))).length = wholeN g.commits (crashN g.tape k) := by rw [List.length_take]; omega
 rw [e, Nat.min_eq_right hw]
 rfl
theorem EngOk.left_le {m : Nat} {g : Eng} (h : EngOk m g) (k : Nat) : g.synced ≤ g.left k ∧ g.left k ≤ g.commits.length := by
 refine ⟨whole_ge _ _ _ (by have := h.sync; omega) ?_, wholeN_le _ _⟩
 rw [← h.safe]; exact (crashN_le h.syn k).1
theorem EngOk.crashs {m : Nat} {g : Eng} (h : EngOk m g) (k : Nat) : EngOk m (g.crash k) := by
 cases hu : g.up with
 | false => unfold Eng.crash; rw [hu]; exact h
 | true =>
  rw [crash_is h hu]
  have hl := (h.left_le k).2
  have hn := h.many
  have hs := h.states
  have e : (g.commits.take (g.left k)).length = g.left k := by rw [List.length_take]; omega
  refine ⟨(h.hist.take _).own, by simp only; omega, by simp only; rw [e, List.length_take]; omega, fun j hj => ?_, fun j hj => ?_, rfl, by simp only; rw [List.take_take, Nat.min_self], by simp [e], by simp, fun s t ht => (by cases ht), by simp⟩
  simp only [e] at hj ⊢
  rw [state_take hj, ← h.state j (by omega)]
  unfold Eng.forest
  simp only [List.getD, List.getElem?_take]
  rw [if_pos (by omega)]
  simp only [e] at hj ⊢
  rw [state_take hj]; exact h.ok j (by omega)
theorem EngOk.starts {m : Nat} {g : Eng} (h : EngOk m g) : EngOk m g.start := ⟨h.hist, h.many, h.states, h.state, h.ok, h.data, h.safe, h.sync, h.six, h.txns, h.who⟩
theorem rqd_ok {k : Nat} {r : Rq} (ok : RqOk k r) (hk : k = 2 ∨ k = 3) : RdOk ⟨r.name, r.key, k == 3, r.last⟩ := by
 obtain ⟨a1, a2, a3, a4, a5, a6, a7, a8⟩ := parts_ok (h := hasN k) ok.fits
 rcases hk with rfl | rfl
 ·exact ⟨a1 rfl, a2 rfl, List.eq_nil_of_length_eq_zero (a7 rfl)⟩
 ·exact ⟨a1 rfl, a2 rfl, a3 rfl⟩
theorem rqw_ok {k : Nat} {r : Rq} (ok : RqOk k r) (hk : k = 4 ∨ k = 5) : WrOk ⟨r.name, r.key, k == 5, r.value⟩ := by
 obtain ⟨a1, a2, a3, a4, a5, a6, a7, a8⟩ := parts_ok (h := hasN k) ok.fits
 rcases hk with rfl | rfl
 ·exact ⟨a1 rfl, (a2 rfl).1, (a2 rfl).2, a4, fun h => by cases h⟩
 ·exact ⟨a1 rfl, (a2 rfl).1, (a2 rfl).2, a4, fun _ => List.eq_nil_of_length_eq_zero (a8 rfl)⟩
theorem EngOk.req {m : Nat} {g : Eng} (h : EngOk m g) (hm : m ≤ 1000) {s : Nat} (hs : s < 8) {k : Nat} {r : Rq} (ok : RqOk k r) : EngOk (m + if k = 6 then 1 else 0) (g.req s k r) := by
 obtain ⟨c, hc⟩ : ∃ c, c = if k = 6 then 1 else 0 := ⟨_, rfl⟩
 rw [← hc]
 have h1 := h.mono (Nat.le_add_right m c)
 have hk := ok.kind
 unfold Eng.req
 split
 exact h1.reply _
 split
 exact h1.reply _
 split
 split
 refine (h1.setTxn s (fun u hu => ?_)).reply _
 cases hu
 have hy := h.sync
 have hn := h.many
 exact ⟨⟨by simp; omega, by simp, by simp, by simp, by simp, by simp, by simp⟩, by simp⟩
 exact h1.reply _
 rename_i t ht
 have htx := h.txns s t ht
 split
 exact h1.reply _
 split
 exact (h1.setNone s).reply _
 split
 unfold Eng.work
 split
 rename_i e
 subst e
 unfold Eng.look
 simp only
 split
 exact h1.reply _
 exact h1.note htx (rqd_ok ok (.inl rfl)) _
 split
 rename_i e
 subst e
 unfold Eng.scan
 split
 exact h1.reply _
 exact h1.note htx (rqd_ok ok (.inr rfl)) _
 split
 rename_i e
 rw [hc, if_pos e]
 exact h.commit hm hs htx
 refine h1.put htx (rqw_ok ok (by omega))
 exact (h1.setNone s).reply _
theorem EngOk.act {m : Nat} {g : Eng} (h : EngOk m g) (hm : m ≤ 1000) {a : Ac} (ha : AcOk a) : EngOk (m + if isC a then 1 else 0) (g.act a) := by
 cases a with
 | ask s b =>
  obtain ⟨c, hc⟩ : ∃ c, c = if isC (.ask s b) then 1 else 0 := ⟨_, rfl⟩
  rw [← hc]
  unfold Eng.act Eng.ask
  simp only
  have h1 := h.mono (Nat.le_add_right m c)
  split
  split
  rename_i e
  have := h.req hm ha.1 (wd_fixed e).1
  refine this.mono ?_
  rw [hc]
  unfold isC
  simp only [e, beq_self_eq_true, Bool.true_and, beq_iff_eq]
  exact Nat.le_refl _
  exact h1.reply _
  exact h1.reply _
 | sync => exact h.syncs
 | crash k => exact h.crashs k
 | start => exact h.starts
theorem eng0_ok : EngOk 0 eng0 := by
 refine ⟨HistOk.nil _, by simp [eng0], by simp [eng0], fun k hk => ?_, fun k hk => ?_, rfl, rfl, rfl, by simp [eng0], fun s t h => (by cases h), by simp [eng0]⟩
 have : k = 0 := by simpa [eng0] using hk
 subst this; rfl
 have : k = 0 := by simpa [eng0] using hk
 subst this; exact ForestOk.nil _
def countC (l : List Ac) : Nat := (l.map fun a => if isC a then 1 else 0).sum
theorem EngOk.run : ∀ (l : List Ac) {m : Nat} {g : Eng}, EngOk m g → m + countC l ≤ 1000 → (∀ a ∈ l, AcOk a) → EngOk (m + countC l) (l.foldl Eng.act g)
  | [], m, g, h, _, _ => h
  | a :: l, m, g, h, hm, ha => by
    have e : countC (a :: l) = (if isC a then 1 else 0) + countC l := by simp [countC]
    rw [e] at hm ⊢
    rw [List.foldl_cons, ← Nat.add_assoc]
    exact EngOk.run l (h.act (by omega) (ha a (by simp))) (by omega) (fun x hx => ha x (by simp [hx]))
theorem run_ok {l : List Ac} (hl : countC l ≤ 1000) (ha : ∀ a ∈ l, AcOk a) : EngOk (countC l) (runE l) := by
 have := EngOk.run l eng0_ok (by omega) ha
 rwa [Nat.zero_add] at this
end Go.Proofs.YtilgpdpooildcaaGreatDoor
