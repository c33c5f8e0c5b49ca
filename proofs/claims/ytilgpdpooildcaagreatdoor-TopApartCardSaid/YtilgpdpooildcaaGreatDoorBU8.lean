/- Rules, plain laws and walks: DG4 DG5 RT1 RT2 RP1 RP2 RP3 RU1 RU2 RV FR FP P14 TP5 TP6 TP7 TP8 W1 W2 W3 PW -/
import Derived.Test.YtilgpdpooildcaaGreatDoorBU2
import Derived.Test.YtilgpdpooildcaaGreatDoorBU7
import Derived.Test.YtilgpdpooildcaaGreatDoorBU3
import Derived.Test.YtilgpdpooildcaaGreatDoorBU1
import Derived.Test.YtilgpdpooildcaaGreatDoorBU4
import Derived.RangeFuncNested
import Derived.RangeFuncLeaves
import Derived.RangeFuncCalls
import Derived.Test.YtilgpdpooildcaaGreatDoorBU5
namespace Go.Proofs.YtilgpdpooildcaaGreatDoor
set_option maxHeartbeats 8000000
open Go.RowKit
set_option maxRecDepth 100000
set_option linter.unusedVariables false
set_option linter.unusedSimpArgs false
theorem Sl.dropD {α : Type} {k : Nat} {R : Fz → List Value → α → Prop} {F : Fz} {a : Option Addr} {n c m : Nat} {l : List α} (hk : 0 < k) (h : Sl k R F (.slice a n c) l) (hm : m ≤ n) : Sl k R F (.slice (if c = m then a else a.map (·.add (m * k))) (n - m) (c - m)) (l.drop m) := by
 have hn := Sl.len h
 obtain ⟨el, h1, h2, h3⟩ := h
 obtain ⟨a0, c0, e1, q1, q2, q3, q4⟩ := h1
 injection e1 with e1 e2 e3
 subst e1; subst e3
 have hll := h2.len
 by_cases hmn : m = l.length
 have e : l.drop m = [] := List.drop_of_length_le (by omega)
 have e0 : n - m = 0 := by omega
 rw [e, e0]
 refine ⟨[], ⟨_, c - m, rfl, by simp, by omega, fun e => ?_, .inl rfl⟩, trivial, by simp⟩
 cases a with
 | none => have := q3 rfl; exact ⟨rfl, by omega⟩
 | some ad => split at e <;> cases e
 have hpos : el.flatten ≠ [] := by
  intro e
  have := congrArg List.length e
  rw [flatten_len h3, hll] at this
  have := Nat.mul_pos (show 0 < l.length by omega) hk
  simp at *
  omega
 obtain ⟨b, o, e, hc⟩ := q4.resolve_left hpos
 subst e
 rw [if_neg (by omega)]
 have hs : Sl k R F (.slice (some ⟨b, o, none⟩) n c) l := ⟨el, ⟨_, _, by rw [hn], q1, q2, q3, .inr ⟨b, o, rfl, hc⟩⟩, h2, h3⟩
 have := Sl.dropN (m := m) hs hm rfl rfl
 show Sl k R F (.slice (some (Addr.add ⟨b, o, none⟩ (m * k))) _ _) _
 rw [Addr.add_mid]
 exact this
theorem Bs.restD {F : Fz} {a : Option Addr} {m c n : Nat} {l : By} (h : Bs F (.slice a m c) l) (hn : n ≤ m) : Bs F (.slice (if c = n then a else a.map (·.add (n * 1))) (m - n) (c - n)) (l.drop n) := bs_of_sl (Sl.dropD (by decide) h.sl hn)
theorem made_bytes (n : Nat) : (madeCells (Value.int .u8 0).cells (n * 1)).toList = (List.replicate n (0 : UInt8)).map bv := by
 rw [show (Value.int .u8 0).cells = #[.int .u8 0] from rfl, toList_madeCells_one]; simp [bv]
theorem stirs_zero (S : List (BitVec 64)) : stirsL S 0 = S := rfl
theorem mix_zero (S : List (BitVec 64)) (p : By) : mixL S p 0 = S := rfl
theorem absorb_at {Z X R : List (BitVec 64)} {p : By} (hX : X = mixL Z p 136) (h : 136 ≤ p.length) (e : absorbL Z p (p.length / 136) = R) : absorbL (stirsL X 24) (p.drop 136) ((p.drop 136).length / 136) = R := by
 rw [hX, ← absorb_step h]; exact e
theorem absorb_end {Z R : List (BitVec 64)} {p : By} (h : p.length / 136 = 0) (e : absorbL Z p (p.length / 136) = R) : Z = R := by
 rw [h] at e; rw [← e]; cases p <;> rfl
theorem outL_len (Z : List (BitVec 64)) : (outL Z).length = 32 := by simp [outL]
theorem sum_own (F : Fz) (w : World) (v : Value) (b : By) (hs : Sat w F) (hT : Tabs w) (hb : Bs F v b) (hn : b.length ≤ 100000) :
    Calls Tryz.prog 117 #[v] w (GivesO w F 1 ByC 5 (sumL b)) := by
 obtain ⟨x, y, rfl, hc1', hc2'⟩ := hb.shape
 unfold maxLen at hc2'
 obtain ⟨i5, hi5, hz5, hs5, hb5⟩ := info_parts infoU8
 have S := St.start hs
 go_enter Tryz.func117, Tryz.ntmps117
 refine wp_seq_k (fun K1 hK1 => region_wl ?_)
 refine do_ rfl (.slice none 0 0) (ex_assign _) ?_
 simp only [pS, pN, pA, pC, pZ]
 refine wl_nil (hK1 _ _ ?_)
 refine wp_seq_k (fun K2 hK2 => region_wl ?_)
 refine do_ rfl (.slice x b.length y) (ex_move _) ?_
 simp only [pS, pN, pA, pC, pZ]
 have S3 := St.addNil S 1 ByC ByC.mono 5 w.heap.size
 refine stAppendS (r := 0) (u := (.slice x b.length y)) S3 rfl i5 (.int .u8 0) 1 Tryz.underlying25 hi5 hz5 hs5 hb5 rfl (by decide) rfl rfl rfl (Sl.toW (Bs.sl hb) (S3).sat) ByC.one (Nat.le_refl _) S3.gr.below.size (by unfold maxLen; simp only [List.length_nil]; omega) (by simp only [List.length_nil]; omega) ?_
 intro v4 w5 S6 hn7
 simp only [pS, pN, pA, pC, pZ]
 have S6 : St w F w5 F [] [ownP 1 ByC ByC.mono 5 w.heap.size v4 ([] ++ b)] := S6
 refine stNew S6 (v := fun n => .slice (some ⟨n, 0, none⟩) 1 1) rfl (ex_lit (ps := #[(0, (.int .u8 6))]) (cells := #[(.int .u8 6)]) (E := 5) (bmap1 rfl) (fun w => by kernel_rfl)) (fun n8 w9 S10 => ?_)
 simp only [pS, pN, pA, pC, pZ]
 have S10 : St w F w9 F [⟨n8, [(.int .u8 6)], 5⟩] [ownP 1 ByC ByC.mono 5 w.heap.size v4 ([] ++ b)] := S10
 rw [List.nil_append] at S10
 refine stPush (i := 0) (r := 0) (p := (6 : UInt8)) (cs := [(.int .u8 6)]) S10 rfl i5 (.int .u8 0) 1 Tryz.underlying25 hi5 hz5 hs5 hb5 rfl (by decide) rfl rfl rfl rfl rfl (bv_one 6) (rfl) (Nat.le_refl _) S10.gr.below.size (by unfold maxLen; omega) (by omega) ?_
 intro v11 w12 S13 hn14
 simp only [pS, pN, pA, pC, pZ]
 have S13 := St.drop S13 (L' := []) (.cons _ (List.Sublist.refl _))
 have S13 : St w F w12 F [] [ownP 1 ByC ByC.mono 5 w.heap.size v11 (b ++ [(6 : UInt8)])] := S13
 refine do_ rfl v11 (ex_assign _) ?_
 simp only [pS, pN, pA, pC, pZ]
 refine wl_nil (hK2 _ _ ?_)
 refine wp_seq_k (fun K15 hK15 => ?_)
 refine wp_block ?_
 rw [padK_zero] at S13
 refine wp_loop_g (fun mm aa w17 => ∃ (k : Nat) (v : Value) (u16 : Nat → Value), mm = padN b - k ∧ u16 = slots aa ∧ aa = ⟨#[(.slice x b.length y), undef, (.slice none 0 0), v, undef, undef, undef, undef, undef, (.slice x b.length y), v4, (.slice (some ⟨n8, 0, none⟩) 1 1), v11, (u16 13), (u16 14), (u16 15), (u16 16), (u16 17), (u16 18), (u16 19), undef, undef, undef, undef, undef, undef, undef, undef, undef, undef, undef, undef, undef, undef, undef, undef, undef, undef, undef, undef, undef, undef, undef, undef, undef, undef, undef, undef, undef, undef, undef, undef, undef, undef, undef, undef, undef, undef, undef, undef, undef, undef, undef, undef, undef, undef, undef, undef, undef, undef, undef, undef, undef, undef, undef, undef, undef, undef], []⟩ ∧ St w F w17 F [] [ownP 1 ByC ByC.mono 5 w.heap.size v (padK b k)] ∧ (k ≤ padN b)) _ ⟨0, v11, _, rfl, rfl, rfl, S13, (Nat.zero_le _)⟩ ?_
 rintro m18 a19 w20 ⟨k, v, u16, rfl, -, rfl, S21, hk⟩ K23 hK23
 refine wp_seq_k (fun K24 hK24 => ?_)
 refine wp_seq_k (fun K25 hK25 => ?_)
 have hpl := padK_len b k
 have hpn : padN b < 136 := by unfold padN; omega
 obtain ⟨a26, cap27, rfl, h28, h29⟩ := (S21.own (i := 0) rfl).shape
 unfold maxLen at h29
 refine region_wl ?_
 refine do_ rfl (.slice a26 (padK b k).length cap27) (ex_move _) ?_
 simp only [pS, pN, pA, pC, pZ]
 refine do_ rfl (.int .i64 (((padK b k).length : Nat) : Int)) (ex_len Tryz.underlying25 rfl) ?_
 simp only [pS, pN, pA, pC, pZ]
 refine do_ rfl (.int .i64 ((((padK b k).length % 136) : Nat) : Int)) (ex_remA (m := ((padK b k).length)) (n := 136) rfl rfl (by decide) (by omega)) ?_
 simp only [pS, pN, pA, pC, pZ]
 by_cases hc16 : ((padK b k).length % 136) = 0
 ·refine do_ rfl (.bool false) (ex_neq (m := ((((padK b k).length % 136) : Nat) : Int)) (n := (0 : Int)) (b := false) rfl rfl (bne_eq_false_iff_eq.2 (by omega))) ?_
  simp only [pS, pN, pA, pC, pZ]
  refine wl_nil (hK25 _ _ ?_)
  refine wp_cond_false rfl ?_
  refine wp_exit ?_
  refine hK15 _ _ ?_
  refine wp_seq_k (fun K30 hK30 => ?_)
  have hkk : k = padN b := by unfold padN at *; omega
  subst hkk
  obtain ⟨xb, hxb⟩ : ∃ x, (padK b (padN b))[(padK b (padN b)).length - 1]? = some x := ⟨_, List.getElem?_eq_getElem (by omega)⟩
  obtain ⟨g31, ha32, c33⟩ := by_at (St.own S21 (i := 0) rfl) hxb
  subst ha32
  refine region_wl ?_
  refine do_ rfl (.slice (some ⟨g31, 0, none⟩) (padK b (padN b)).length cap27) (ex_move _) ?_
  simp only [pS, pN, pA, pC, pZ]
  refine do_ rfl (.slice (some ⟨g31, 0, none⟩) (padK b (padN b)).length cap27) (ex_move _) ?_
  simp only [pS, pN, pA, pC, pZ]
  refine do_ rfl (.int .i64 (((padK b (padN b)).length : Nat) : Int)) (ex_len Tryz.underlying25 rfl) ?_
  simp only [pS, pN, pA, pC, pZ]
  refine do_ rfl (.int .i64 ((((padK b (padN b)).length - 1) : Nat) : Int)) (ex_sub (m := (((padK b (padN b)).length : Nat) : Int)) (n := (1 : Int)) (r := ((((padK b (padN b)).length - 1) : Nat) : Int)) rfl rfl (by omega) (by omega) (by omega)) ?_
  simp only [pS, pN, pA, pC, pZ]
  refine do_ rfl (.pointer (some ⟨g31, 0 + ((padK b (padN b)).length - 1) * 1, none⟩)) (ex_at (i := ((padK b (padN b)).length - 1)) (sz := 1) Tryz.underlying25 (sizeof_5 _) rfl rfl rfl (by omega) rfl) ?_
  simp only [pS, pN, pA, pC, pZ]
  refine do_ rfl (bv xb) (ex_load rfl (load1 (nagg_5 _) c33)) ?_
  simp only [pS, pN, pA, pC, pZ]
  refine do_ rfl (bv (xb ||| 128)) (ex_orB rfl rfl) ?_
  simp only [pS, pN, pA, pC, pZ]
  refine do_ rfl (.pointer (some ⟨g31, 0 + ((padK b (padN b)).length - 1) * 1, none⟩)) (ex_at (i := ((padK b (padN b)).length - 1)) (sz := 1) Tryz.underlying25 (sizeof_5 _) rfl rfl rfl (by omega) rfl) ?_
  simp only [pS, pN, pA, pC, pZ]
  refine stSetRow (r := 0) (i := ((padK b (padN b)).length - 1)) (p := (xb ||| 128)) (u := (bv (xb ||| 128))) S21 rfl rfl (by omega) rfl rfl (by omega) (size_5) (allc1 rfl) rfl rfl (Nat.le_refl _) (fun w34 S35 => ?_)
  simp only [pS, pN, pA, pC, pZ]
  have S35 : St w F w34 F [] [ownP 1 ByC ByC.mono 5 w.heap.size (.slice (some ⟨g31, 0, none⟩) (padK b (padN b)).length cap27) ((padK b (padN b)).set ((padK b (padN b)).length - 1) (xb ||| 128))] := S35
  rw [padL_of hxb] at S35
  refine wl_nil (hK30 _ _ ?_)
  refine wp_seq_k (fun K36 hK36 => ?_)
  obtain ⟨F37, S38, le39, hv40⟩ := St.freeze S35 (i := 0) rfl (Nat.le_refl _)
  have S38 : St w F w34 F37 [] [] := S38
  have hv40 : Bys _ (.slice (some ⟨g31, 0, none⟩) (padK b (padN b)).length cap27) (padL b) := hv40
  have r41 := bs_of_sl hv40
  refine region_wl ?_
  refine stNew S38 (v := fun n => .pointer (some ⟨n, 0, none⟩)) rfl (ex_alloc (zero_217 _)) (fun n42 w43 S44 => ?_)
  simp only [pS, pN, pA, pC, pZ]
  have S44 : St w F w43 F37 [⟨n42, ((List.replicate 25 (0 : BitVec 64)).map laneV), 217⟩] [] := S44
  refine wl_nil (hK36 _ _ ?_)
  refine wp_seq_k (fun K45 hK45 => ?_)
  refine wp_block ?_
  refine wp_loop_g (fun mm aa w47 => ∃ (Z : List (BitVec 64)) (ra : Option Addr) (rn : Nat) (rc : Nat) (rest : By) (u46 : Nat → Value), mm = rest.length ∧ u46 = slots aa ∧ aa = ⟨#[(.slice x b.length y), undef, (.slice none 0 0), (.slice ra rn rc), (.pointer (some ⟨n42, 0, none⟩)), (u46 5), (u46 6), undef, undef, (.slice x b.length y), v4, (.slice (some ⟨n8, 0, none⟩) 1 1), v11, (.slice (some ⟨g31, 0, none⟩) (padK b (padN b)).length cap27), (.int .i64 (((padK b (padN b)).length : Nat) : Int)), (.int .i64 ((((padK b (padN b)).length % 136) : Nat) : Int)), (.bool false), (u16 17), (u16 18), (u16 19), (.slice (some ⟨g31, 0, none⟩) (padK b (padN b)).length cap27), (.slice (some ⟨g31, 0, none⟩) (padK b (padN b)).length cap27), (.int .i64 (((padK b (padN b)).length : Nat) : Int)), (.int .i64 ((((padK b (padN b)).length - 1) : Nat) : Int)), (.pointer (some ⟨g31, 0 + ((padK b (padN b)).length - 1) * 1, none⟩)), (bv xb), (bv (xb ||| 128)), (.pointer (some ⟨g31, 0 + ((padK b (padN b)).length - 1) * 1, none⟩)), (u46 28), (u46 29), (u46 30), (u46 31), (u46 32), (u46 33), (u46 34), (u46 35), (u46 36), (u46 37), (u46 38), (u46 39), (u46 40), (u46 41), (u46 42), (u46 43), (u46 44), (u46 45), (u46 46), (u46 47), (u46 48), (u46 49), (u46 50), (u46 51), (u46 52), (u46 53), (u46 54), (u46 55), (u46 56), (u46 57), undef, undef, undef, undef, undef, undef, undef, undef, undef, undef, undef, undef, undef, undef, undef, undef, undef, undef, undef, undef], []⟩ ∧ St w F w47 F37 [⟨n42, (Z.map laneV), 217⟩] [] ∧ (Z.length = 25) ∧ (Bs F37 (.slice ra rn rc) rest) ∧ (rest.length % 136 = 0) ∧ (rest.length ≤ 200000) ∧ (absorbL Z rest (rest.length / 136) = absorbL (List.replicate 25 0) (padL b) ((padL b).length / 136))) _ ⟨(List.replicate 25 0), (some ⟨g31, 0, none⟩), (padK b (padN b)).length, cap27, (padL b), _, rfl, rfl, rfl, S44, (by simp), r41, (by rw [padL_len]; unfold padN; omega), (by rw [padL_len]; unfold padN; omega), rfl⟩ ?_
  rintro m48 a49 w50 ⟨Z, ra, rn, rc, rest, u46, rfl, -, rfl, S51, hZ, hrest, hrm, hrl, hab⟩ K53 hK53
  refine wp_seq_k (fun K54 hK54 => ?_)
  refine wp_seq_k (fun K55 hK55 => ?_)
  have hrn := hrest.len
  refine region_wl ?_
  refine do_ rfl (.slice ra rn rc) (ex_move _) ?_
  simp only [pS, pN, pA, pC, pZ]
  refine do_ rfl (.int .i64 ((rn : Nat) : Int)) (ex_len Tryz.underlying25 rfl) ?_
  simp only [pS, pN, pA, pC, pZ]
  by_cases hc30 : 0 < rn
  ·refine do_ rfl (.bool true) (ex_gtr (m := ((rn : Nat) : Int)) (n := (0 : Int)) (b := true) rfl rfl (decide_eq_true (by omega))) ?_
   simp only [pS, pN, pA, pC, pZ]
   refine wl_nil (hK55 _ _ ?_)
   refine wp_cond_true rfl ?_
   refine wp_skip ?_
   refine hK54 _ _ ?_
   refine wp_seq_k (fun K56 hK56 => ?_)
   refine wp_block ?_
   refine wp_seq_k (fun K57 hK57 => ?_)
   refine wp_seq_k (fun K58 hK58 => region_wl ?_)
   refine do_ rfl (.int .i64 0) (ex_move _) ?_
   simp only [pS, pN, pA, pC, pZ]
   refine wl_nil (hK58 _ _ ?_)
   refine wp_block ?_
   have S51 : St w F w50 F37 [⟨n42, ((mixL Z rest 0).map laneV), 217⟩] [] := by rw [mix_zero]; exact S51
   refine wp_loop_g (fun mm aa w60 => ∃ (i : Nat) (u59 : Nat → Value), mm = 136 - i ∧ u59 = slots aa ∧ aa = ⟨#[(.slice x b.length y), undef, (.slice none 0 0), (.slice ra rn rc), (.pointer (some ⟨n42, 0, none⟩)), (u59 5), (u46 6), undef, undef, (.slice x b.length y), v4, (.slice (some ⟨n8, 0, none⟩) 1 1), v11, (.slice (some ⟨g31, 0, none⟩) (padK b (padN b)).length cap27), (.int .i64 (((padK b (padN b)).length : Nat) : Int)), (.int .i64 ((((padK b (padN b)).length % 136) : Nat) : Int)), (.bool false), (u16 17), (u16 18), (u16 19), (.slice (some ⟨g31, 0, none⟩) (padK b (padN b)).length cap27), (.slice (some ⟨g31, 0, none⟩) (padK b (padN b)).length cap27), (.int .i64 (((padK b (padN b)).length : Nat) : Int)), (.int .i64 ((((padK b (padN b)).length - 1) : Nat) : Int)), (.pointer (some ⟨g31, 0 + ((padK b (padN b)).length - 1) * 1, none⟩)), (bv xb), (bv (xb ||| 128)), (.pointer (some ⟨g31, 0 + ((padK b (padN b)).length - 1) * 1, none⟩)), (.slice ra rn rc), (.int .i64 ((rn : Nat) : Int)), (.bool true), (u46 31), (u46 32), (.int .i64 ((i : Nat) : Int)), (u59 34), (u59 35), (u59 36), (u59 37), (u59 38), (u59 39), (u59 40), (u59 41), (u59 42), (u59 43), (u59 44), (u59 45), (u59 46), (u59 47), (u59 48), (u59 49), (u59 50), (u59 51), (u46 52), (u46 53), (u46 54), (u46 55), (u46 56), (u46 57), undef, undef, undef, undef, undef, undef, undef, undef, undef, undef, undef, undef, undef, undef, undef, undef, undef, undef, undef, undef], []⟩ ∧ St w F w60 F37 [⟨n42, ((mixL Z rest i).map laneV), 217⟩] [] ∧ (i ≤ 136)) _ ⟨0, _, rfl, rfl, rfl, S51, (by omega)⟩ ?_
   rintro m61 a62 w63 ⟨i, u59, rfl, -, rfl, S64, hi⟩ K66 hK66
   refine wp_seq_k (fun K67 hK67 => region_wl ?_)
   by_cases hc34 : i < 136
   ·refine do_ rfl (.bool true) (ex_lss (m := ((i : Nat) : Int)) (n := (136 : Int)) (b := true) rfl rfl (decide_eq_true (by omega))) ?_
    simp only [pS, pN, pA, pC, pZ]
    refine wl_nil (hK67 _ _ ?_)
    refine wp_seq_k (fun K68 hK68 => ?_)
    refine wp_cond_true rfl ?_
    refine wp_skip ?_
    refine hK68 _ _ ?_
    refine wp_seq_k (fun K69 hK69 => ?_)
    refine wp_block ?_
    refine wp_seq_k (fun K70 hK70 => region_wl ?_)
    refine do_ rfl (.int .i64 ((i : Nat) : Int)) (ex_move _) ?_
    simp only [pS, pN, pA, pC, pZ]
    refine do_ rfl (.int .i64 ((i : Nat) : Int)) (ex_assign _) ?_
    simp only [pS, pN, pA, pC, pZ]
    refine wl_nil (hK70 _ _ ?_)
    obtain ⟨xi, hxi⟩ : ∃ x, rest[i]? = some x := ⟨_, List.getElem?_eq_getElem (by omega)⟩
    obtain ⟨b71, o72, ha73, c74⟩ := Bs.get hrest hxi
    refine region_gw F37 13 [] (by kernel_rfl) (by kernel_rfl) ?_
    simp only [List.take_succ_cons, List.take_zero]
    refine gw_pure rfl rfl (.int .i64 ((i : Nat) : Int)) (fun w75 hCw75 => pureAt_of (ex_move _)) ?_
    simp only [pS, pN, pA, pC, pZ]
    refine gw_pure rfl rfl (.int .i64 (((i / 8) : Nat) : Int)) (fun w75 hCw75 => pureAt_of (ex_quoA (m := i) (n := 8) rfl rfl (by decide) (by omega))) ?_
    simp only [pS, pN, pA, pC, pZ]
    refine gw_pure rfl rfl (.pointer (some ⟨n42, (i / 8), none⟩)) (fun w75 hCw75 => pureAt_of (ex_atA (i := (i / 8)) Tryz.underlying217 (sizeof_215 _) rfl rfl (by omega))) ?_
    simp only [pS, pN, pA, pC, pZ]
    refine gw_pure rfl rfl (laneV (at0 (mixL Z rest i) (i / 8))) (fun w75 hCw75 => pureAt_of (ex_load rfl (load1 (nagg_215 _) (St.cell (St.tells S64 hCw75) (i := 0) rfl (lanes_at (Nat.lt_of_lt_of_eq (show (i / 8) < 25 by omega) ((mix_len _ _ _).trans hZ).symm)))))) ?_
    simp only [pS, pN, pA, pC, pZ]
    refine gw_pure rfl rfl (.slice ra rn rc) (fun w75 hCw75 => pureAt_of (ex_move _)) ?_
    simp only [pS, pN, pA, pC, pZ]
    refine gw_pure rfl rfl (.int .i64 ((i : Nat) : Int)) (fun w75 hCw75 => pureAt_of (ex_move _)) ?_
    simp only [pS, pN, pA, pC, pZ]
    refine gw_pure rfl rfl (.pointer (some ⟨b71, o72 + i * 1, none⟩)) (fun w75 hCw75 => pureAt_of (ex_at (i := i) (sz := 1) Tryz.underlying25 (sizeof_5 _) rfl ha73 rfl (by omega) rfl)) ?_
    simp only [pS, pN, pA, pC, pZ]
    refine gw_pure rfl rfl (bv xi) (fun w75 hCw75 => pureAt_of (ex_load rfl (load1 (nagg_5 _) (St.fz (St.tells S64 hCw75) c74)))) ?_
    simp only [pS, pN, pA, pC, pZ]
    refine gw_pure rfl rfl (laneV (BitVec.ofNat 64 xi.toNat)) (fun w75 hCw75 => pureAt_of (ex_convert (v := (bv xi)) rfl (conv_u64 xi _))) ?_
    simp only [pS, pN, pA, pC, pZ]
    refine gw_pure rfl rfl (.int .i64 ((i : Nat) : Int)) (fun w75 hCw75 => pureAt_of (ex_move _)) ?_
    simp only [pS, pN, pA, pC, pZ]
    refine gw_pure rfl rfl (.int .i64 (((i % 8) : Nat) : Int)) (fun w75 hCw75 => pureAt_of (ex_remA (m := i) (n := 8) rfl rfl (by decide) (by omega))) ?_
    simp only [pS, pN, pA, pC, pZ]
    refine gw_pure rfl rfl (.int .i64 ((((i % 8) * 8) : Nat) : Int)) (fun w75 hCw75 => pureAt_of (ex_mul (m := (((i % 8) : Nat) : Int)) (n := (8 : Int)) (r := ((((i % 8) * 8) : Nat) : Int)) rfl rfl (by omega) (by omega) (by omega))) ?_
    simp only [pS, pN, pA, pC, pZ]
    refine gw_pure rfl rfl (laneV ((BitVec.ofNat 64 xi.toNat) <<< ((i % 8) * 8))) (fun w75 hCw75 => pureAt_of (ex_shlL (n := ((i % 8) * 8)) rfl rfl (by omega))) ?_
    simp only [pS, pN, pA, pC, pZ]
    refine gw_nil ?_
    intro w76 hC78 hF79
    clear hF79
    have S77 := St.tells S64 hC78
    simp only [List.drop_succ_cons, List.drop_zero]
    refine do_ rfl (laneV ((at0 (mixL Z rest i) (i / 8)) ^^^ ((BitVec.ofNat 64 xi.toNat) <<< ((i % 8) * 8)))) (ex_xorL rfl rfl) ?_
    simp only [pS, pN, pA, pC, pZ]
    refine do_ rfl (.pointer (some ⟨n42, (i / 8), none⟩)) (ex_atA (i := (i / 8)) Tryz.underlying217 (sizeof_215 _) rfl rfl (by omega)) ?_
    simp only [pS, pN, pA, pC, pZ]
    refine stStore (i := 0) (v := laneV ((at0 (mixL Z rest i) (i / 8)) ^^^ ((BitVec.ofNat 64 xi.toNat) <<< ((i % 8) * 8)))) S77 rfl rfl rfl rfl (size_215) (allc1 rfl) (by rw [List.length_map, ((mix_len _ _ _).trans hZ)]; show (i / 8) + 1 ≤ 25; omega) (fun w80 S81 => ?_)
    simp only [pS, pN, pA, pC, pZ]
    have S81 : St w F w80 F37 [⟨n42, (splice ((mixL Z rest i).map laneV) (i / 8) [laneV ((at0 (mixL Z rest i) (i / 8)) ^^^ ((BitVec.ofNat 64 xi.toNat) <<< ((i % 8) * 8)))]), 217⟩] [] := S81
    rw [lanes_set (Nat.lt_of_lt_of_eq (show (i / 8) < 25 by omega) ((mix_len _ _ _).trans hZ).symm)] at S81
    rw [mix_step Z hxi] at S81
    refine wl_nil (hK69 _ _ ?_)
    refine region_wl ?_
    refine do_ rfl (.int .i64 (((i + 1) : Nat) : Int)) (ex_add (m := ((i : Nat) : Int)) (n := (1 : Int)) (r := (((i + 1) : Nat) : Int)) rfl rfl (by omega) (by omega) (by omega)) ?_
    simp only [pS, pN, pA, pC, pZ]
    refine do_ rfl (.int .i64 (((i + 1) : Nat) : Int)) (ex_move _) ?_
    simp only [pS, pN, pA, pC, pZ]
    refine wl_nil ?_
    exact hK66 _ _ _ (by omega) ⟨(i + 1), _, rfl, rfl, rfl, S81, (by omega)⟩
   ·refine do_ rfl (.bool false) (ex_lss (m := ((i : Nat) : Int)) (n := (136 : Int)) (b := false) rfl rfl (decide_eq_false (by omega))) ?_
    simp only [pS, pN, pA, pC, pZ]
    refine wl_nil (hK67 _ _ ?_)
    refine wp_seq_k (fun K82 hK82 => ?_)
    refine wp_cond_false rfl ?_
    refine wp_exit ?_
    refine hK57 _ _ ?_
    refine wp_seq_k (fun K83 hK83 => ?_)
    obtain rfl : i = 136 := by omega
    obtain ⟨Xm, hXm⟩ : ∃ X, X = mixL Z rest 136 := ⟨_, rfl⟩
    have hXl : Xm.length = 25 := by rw [hXm]; exact (mix_len _ _ _).trans hZ
    rw [← hXm] at S64
    refine region_wl ?_
    refine do_ rfl (.int .i64 0) (ex_move _) ?_
    simp only [pS, pN, pA, pC, pZ]
    refine wl_nil (hK83 _ _ ?_)
    refine wp_block ?_
    have S64 : St w F w63 F37 [⟨n42, ((stirsL Xm 0).map laneV), 217⟩] [] := by rw [stirs_zero]; exact S64
    refine wp_loop_g (fun mm aa w85 => ∃ (q : Nat) (u84 : Nat → Value), mm = 24 - q ∧ u84 = slots aa ∧ aa = ⟨#[(.slice x b.length y), undef, (.slice none 0 0), (.slice ra rn rc), (.pointer (some ⟨n42, 0, none⟩)), (u59 5), (u84 6), undef, undef, (.slice x b.length y), v4, (.slice (some ⟨n8, 0, none⟩) 1 1), v11, (.slice (some ⟨g31, 0, none⟩) (padK b (padN b)).length cap27), (.int .i64 (((padK b (padN b)).length : Nat) : Int)), (.int .i64 ((((padK b (padN b)).length % 136) : Nat) : Int)), (.bool false), (u16 17), (u16 18), (u16 19), (.slice (some ⟨g31, 0, none⟩) (padK b (padN b)).length cap27), (.slice (some ⟨g31, 0, none⟩) (padK b (padN b)).length cap27), (.int .i64 (((padK b (padN b)).length : Nat) : Int)), (.int .i64 ((((padK b (padN b)).length - 1) : Nat) : Int)), (.pointer (some ⟨g31, 0 + ((padK b (padN b)).length - 1) * 1, none⟩)), (bv xb), (bv (xb ||| 128)), (.pointer (some ⟨g31, 0 + ((padK b (padN b)).length - 1) * 1, none⟩)), (.slice ra rn rc), (.int .i64 ((rn : Nat) : Int)), (.bool true), (u46 31), (u46 32), (.int .i64 136), (.bool false), (u59 35), (u59 36), (u59 37), (u59 38), (u59 39), (u59 40), (u59 41), (u59 42), (u59 43), (u59 44), (u59 45), (u59 46), (u59 47), (u59 48), (u59 49), (u59 50), (u59 51), (.int .i64 ((q : Nat) : Int)), (u84 53), (u84 54), (u84 55), (u84 56), (u84 57), undef, undef, undef, undef, undef, undef, undef, undef, undef, undef, undef, undef, undef, undef, undef, undef, undef, undef, undef, undef], []⟩ ∧ St w F w85 F37 [⟨n42, ((stirsL Xm q).map laneV), 217⟩] [] ∧ (q ≤ 24)) _ ⟨0, _, rfl, rfl, rfl, S64, (by omega)⟩ ?_
    rintro m86 a87 w88 ⟨q, u84, rfl, -, rfl, S89, hq⟩ K91 hK91
    refine wp_seq_k (fun K92 hK92 => region_wl ?_)
    by_cases hc53 : q < 24
    ·refine do_ rfl (.bool true) (ex_lss (m := ((q : Nat) : Int)) (n := (24 : Int)) (b := true) rfl rfl (decide_eq_true (by omega))) ?_
     simp only [pS, pN, pA, pC, pZ]
     refine wl_nil (hK92 _ _ ?_)
     refine wp_seq_k (fun K93 hK93 => ?_)
     refine wp_cond_true rfl ?_
     refine wp_skip ?_
     refine hK93 _ _ ?_
     refine wp_seq_k (fun K94 hK94 => ?_)
     refine wp_block ?_
     refine wp_seq_k (fun K95 hK95 => region_wl ?_)
     refine do_ rfl (.int .i64 ((q : Nat) : Int)) (ex_move _) ?_
     simp only [pS, pN, pA, pC, pZ]
     refine do_ rfl (.int .i64 ((q : Nat) : Int)) (ex_assign _) ?_
     simp only [pS, pN, pA, pC, pZ]
     refine wl_nil (hK95 _ _ ?_)
     refine region_wl ?_
     refine do_ rfl (.int .i64 ((q : Nat) : Int)) (ex_move _) ?_
     simp only [pS, pN, pA, pC, pZ]
     refine stStir rfl (ex_fn (vs := #[(.pointer (some ⟨n42, 0, none⟩)), (.int .i64 ((q : Nat) : Int))]) (map2 rfl rfl) rfl (ent_138 _ _)) (stir_spec S89 (stirs_len hXl _) hT (by omega)) (fun w96 S97 => ?_)
     simp only [pS, pN, pA, pC, pZ]
     have S97 : St w F w96 F37 [⟨n42, ((stirL (stirsL Xm q) q).map laneV), 217⟩] [] := S97
     rw [stirs_step] at S97
     refine wl_nil (hK94 _ _ ?_)
     refine region_wl ?_
     refine do_ rfl (.int .i64 (((q + 1) : Nat) : Int)) (ex_add (m := ((q : Nat) : Int)) (n := (1 : Int)) (r := (((q + 1) : Nat) : Int)) rfl rfl (by omega) (by omega) (by omega)) ?_
     simp only [pS, pN, pA, pC, pZ]
     refine do_ rfl (.int .i64 (((q + 1) : Nat) : Int)) (ex_move _) ?_
     simp only [pS, pN, pA, pC, pZ]
     refine wl_nil ?_
     exact hK91 _ _ _ (by omega) ⟨(q + 1), _, rfl, rfl, rfl, S97, (by omega)⟩
    ·refine do_ rfl (.bool false) (ex_lss (m := ((q : Nat) : Int)) (n := (24 : Int)) (b := false) rfl rfl (decide_eq_false (by omega))) ?_
     simp only [pS, pN, pA, pC, pZ]
     refine wl_nil (hK92 _ _ ?_)
     refine wp_seq_k (fun K98 hK98 => ?_)
     refine wp_cond_false rfl ?_
     refine wp_exit ?_
     refine hK56 _ _ ?_
     obtain rfl : q = 24 := by omega
     refine region_wl ?_
     refine do_ rfl (.slice ra rn rc) (ex_move _) ?_
     simp only [pS, pN, pA, pC, pZ]
     have hcap : rest.length ≤ rc := by obtain ⟨_, _, e, q, _⟩ := hrest.shape; injection e with _ _ e; rw [e]; exact q
     have r99 : Bs _ (.slice (if rc = 136 then ra else ra.map (·.add (136 * 1))) (rn - 136) (rc - 136)) (rest.drop 136) := Bs.restD hrest (by omega)
     refine do_ rfl (.slice (if rc = 136 then ra else ra.map (·.add (136 * 1))) (rn - 136) (rc - 136)) (ex_slice (l := 136) (h := rn) (sz := 1) Tryz.underlying25 rfl (sizeof_5 _) (.inr ⟨_, rfl, rfl⟩) (.inl ⟨rfl, rfl⟩) (by omega) (by omega) (rfl)) ?_
     simp only [pS, pN, pA, pC, pZ]
     refine do_ rfl (.slice (if rc = 136 then ra else ra.map (·.add (136 * 1))) (rn - 136) (rc - 136)) (ex_assign _) ?_
     simp only [pS, pN, pA, pC, pZ]
     refine wl_nil ?_
     have hdl : (rest.drop 136).length = rest.length - 136 := by simp
     exact hK53 _ _ _ (by omega) ⟨(stirsL Xm 24), (if rc = 136 then ra else ra.map (·.add (136 * 1))), (rn - 136), (rc - 136), (rest.drop 136), _, rfl, rfl, rfl, S89, (stirs_len hXl 24), r99, (by omega), (by omega), (absorb_at hXm (by omega) hab)⟩
  ·refine do_ rfl (.bool false) (ex_gtr (m := ((rn : Nat) : Int)) (n := (0 : Int)) (b := false) rfl rfl (decide_eq_false (by omega))) ?_
   simp only [pS, pN, pA, pC, pZ]
   refine wl_nil (hK55 _ _ ?_)
   refine wp_cond_false rfl ?_
   refine wp_exit ?_
   refine hK45 _ _ ?_
   refine wp_seq_k (fun K100 hK100 => ?_)
   have hZa := absorb_end (by omega) hab
   refine region_wl ?_
   refine stMake (k := 1) (n := 32) (m := 32) S51 rfl i5 (.int .u8 0) 1 Tryz.underlying25 hi5 hz5 hs5 hb5 rfl rfl (by omega) (by omega) (by omega) ?_
   intro g101 w102 S103
   rw [made_bytes] at S103
   simp only [pS, pN, pA, pC, pZ]
   have S103 : St w F w102 F37 [⟨g101, ((List.replicate 32 (0 : UInt8)).map bv), 5⟩, ⟨n42, (Z.map laneV), 217⟩] [] := S103
   have S103 : St w F w102 F37 [⟨g101, ((outK Z 0).map bv), 5⟩, ⟨n42, (Z.map laneV), 217⟩] [] := by rw [outK_zero]; exact S103
   refine do_ rfl (.slice (some ⟨g101, 0, none⟩) 32 32) (ex_assign _) ?_
   simp only [pS, pN, pA, pC, pZ]
   refine wl_nil (hK100 _ _ ?_)
   refine wp_seq_k (fun K104 hK104 => ?_)
   refine wp_seq_k (fun K105 hK105 => region_wl ?_)
   refine do_ rfl (.slice (some ⟨g101, 0, none⟩) 32 32) (ex_move _) ?_
   simp only [pS, pN, pA, pC, pZ]
   refine do_ rfl (.int .i64 32) (ex_len Tryz.underlying25 rfl) ?_
   simp only [pS, pN, pA, pC, pZ]
   refine do_ rfl (.int .i64 0) (ex_move _) ?_
   simp only [pS, pN, pA, pC, pZ]
   refine wl_nil (hK105 _ _ ?_)
   refine wp_block ?_
   refine wp_loop_g (fun mm aa w107 => ∃ (j : Nat) (u106 : Nat → Value), mm = 32 - j ∧ u106 = slots aa ∧ aa = ⟨#[(.slice x b.length y), undef, (.slice none 0 0), (.slice ra rn rc), (.pointer (some ⟨n42, 0, none⟩)), (u46 5), (u46 6), (.slice (some ⟨g101, 0, none⟩) 32 32), (u106 8), (.slice x b.length y), v4, (.slice (some ⟨n8, 0, none⟩) 1 1), v11, (.slice (some ⟨g31, 0, none⟩) (padK b (padN b)).length cap27), (.int .i64 (((padK b (padN b)).length : Nat) : Int)), (.int .i64 ((((padK b (padN b)).length % 136) : Nat) : Int)), (.bool false), (u16 17), (u16 18), (u16 19), (.slice (some ⟨g31, 0, none⟩) (padK b (padN b)).length cap27), (.slice (some ⟨g31, 0, none⟩) (padK b (padN b)).length cap27), (.int .i64 (((padK b (padN b)).length : Nat) : Int)), (.int .i64 ((((padK b (padN b)).length - 1) : Nat) : Int)), (.pointer (some ⟨g31, 0 + ((padK b (padN b)).length - 1) * 1, none⟩)), (bv xb), (bv (xb ||| 128)), (.pointer (some ⟨g31, 0 + ((padK b (padN b)).length - 1) * 1, none⟩)), (.slice ra rn rc), (.int .i64 ((rn : Nat) : Int)), (.bool false), (u46 31), (u46 32), (u46 33), (u46 34), (u46 35), (u46 36), (u46 37), (u46 38), (u46 39), (u46 40), (u46 41), (u46 42), (u46 43), (u46 44), (u46 45), (u46 46), (u46 47), (u46 48), (u46 49), (u46 50), (u46 51), (u46 52), (u46 53), (u46 54), (u46 55), (u46 56), (u46 57), (.slice (some ⟨g101, 0, none⟩) 32 32), (.slice (some ⟨g101, 0, none⟩) 32 32), (.int .i64 32), (.int .i64 ((j : Nat) : Int)), (u106 62), (u106 63), (u106 64), (u106 65), (u106 66), (u106 67), (u106 68), (u106 69), (u106 70), (u106 71), (u106 72), (u106 73), (u106 74), (u106 75), (u106 76), undef], []⟩ ∧ St w F w107 F37 [⟨g101, ((outK Z j).map bv), 5⟩, ⟨n42, (Z.map laneV), 217⟩] [] ∧ (j ≤ 32)) _ ⟨0, _, rfl, rfl, rfl, S103, (by omega)⟩ ?_
   rintro m108 a109 w110 ⟨j, u106, rfl, -, rfl, S111, hj⟩ K113 hK113
   refine wp_seq_k (fun K114 hK114 => region_wl ?_)
   by_cases hc62 : j < 32
   ·refine do_ rfl (.bool true) (ex_lss (m := ((j : Nat) : Int)) (n := (32 : Int)) (b := true) rfl rfl (decide_eq_true (by omega))) ?_
    simp only [pS, pN, pA, pC, pZ]
    refine wl_nil (hK114 _ _ ?_)
    refine wp_seq_k (fun K115 hK115 => ?_)
    refine wp_cond_true rfl ?_
    refine wp_skip ?_
    refine hK115 _ _ ?_
    refine wp_seq_k (fun K116 hK116 => ?_)
    refine wp_block ?_
    refine wp_seq_k (fun K117 hK117 => region_wl ?_)
    refine do_ rfl (.int .i64 ((j : Nat) : Int)) (ex_move _) ?_
    simp only [pS, pN, pA, pC, pZ]
    refine do_ rfl (.int .i64 ((j : Nat) : Int)) (ex_assign _) ?_
    simp only [pS, pN, pA, pC, pZ]
    refine wl_nil (hK117 _ _ ?_)
    refine region_wl ?_
    refine do_ rfl (.slice (some ⟨g101, 0, none⟩) 32 32) (ex_move _) ?_
    simp only [pS, pN, pA, pC, pZ]
    refine do_ rfl (.int .i64 ((j : Nat) : Int)) (ex_move _) ?_
    simp only [pS, pN, pA, pC, pZ]
    refine do_ rfl (.int .i64 ((j : Nat) : Int)) (ex_move _) ?_
    simp only [pS, pN, pA, pC, pZ]
    refine do_ rfl (.int .i64 (((j / 8) : Nat) : Int)) (ex_quoA (m := j) (n := 8) rfl rfl (by decide) (by omega)) ?_
    simp only [pS, pN, pA, pC, pZ]
    refine do_ rfl (.pointer (some ⟨n42, (j / 8), none⟩)) (ex_atA (i := (j / 8)) Tryz.underlying217 (sizeof_215 _) rfl rfl (by omega)) ?_
    simp only [pS, pN, pA, pC, pZ]
    refine do_ rfl (laneV (at0 Z (j / 8))) (ex_load rfl (load1 (nagg_215 _) (St.cell S111 (i := 1) rfl (lanes_at (Nat.lt_of_lt_of_eq (show (j / 8) < 25 by omega) hZ.symm))))) ?_
    simp only [pS, pN, pA, pC, pZ]
    refine do_ rfl (.int .i64 ((j : Nat) : Int)) (ex_move _) ?_
    simp only [pS, pN, pA, pC, pZ]
    refine do_ rfl (.int .i64 (((j % 8) : Nat) : Int)) (ex_remA (m := j) (n := 8) rfl rfl (by decide) (by omega)) ?_
    simp only [pS, pN, pA, pC, pZ]
    refine do_ rfl (.int .i64 ((((j % 8) * 8) : Nat) : Int)) (ex_mul (m := (((j % 8) : Nat) : Int)) (n := (8 : Int)) (r := ((((j % 8) * 8) : Nat) : Int)) rfl rfl (by omega) (by omega) (by omega)) ?_
    simp only [pS, pN, pA, pC, pZ]
    refine do_ rfl (laneV ((at0 Z (j / 8)) >>> ((j % 8) * 8))) (ex_shrL (n := ((j % 8) * 8)) rfl rfl (by omega)) ?_
    simp only [pS, pN, pA, pC, pZ]
    refine do_ rfl (bv (UInt8.ofNat (((at0 Z (j / 8)) >>> ((j % 8) * 8)).toNat % 256))) (ex_convert (v := (laneV ((at0 Z (j / 8)) >>> ((j % 8) * 8)))) rfl (conv_low ((at0 Z (j / 8)) >>> ((j % 8) * 8)) _)) ?_
    simp only [pS, pN, pA, pC, pZ]
    refine do_ rfl (.pointer (some ⟨g101, 0 + j * 1, none⟩)) (ex_at (i := j) (sz := 1) Tryz.underlying25 (sizeof_5 _) rfl rfl rfl (by omega) rfl) ?_
    simp only [pS, pN, pA, pC, pZ]
    refine stStore (i := 0) (v := bv (UInt8.ofNat (((at0 Z (j / 8)) >>> ((j % 8) * 8)).toNat % 256))) S111 rfl rfl rfl rfl (size_5) (allc1 rfl) (by rw [List.length_map, outK_len]; show 0 + j * 1 + 1 ≤ 32; omega) (fun w118 S119 => ?_)
    simp only [pS, pN, pA, pC, pZ]
    have S119 : St w F w118 F37 [⟨g101, (splice ((outK Z j).map bv) (0 + j * 1) [bv (UInt8.ofNat (((at0 Z (j / 8)) >>> ((j % 8) * 8)).toNat % 256))]), 5⟩, ⟨n42, (Z.map laneV), 217⟩] [] := S119
    rw [Nat.zero_add, Nat.mul_one, bytes_set (by rw [outK_len]; omega)] at S119
    have S119 : St w F w118 F37 [⟨g101, (((outK Z j).set j (outAt Z j)).map bv), 5⟩, ⟨n42, (Z.map laneV), 217⟩] [] := S119
    rw [outK_step Z (by omega)] at S119
    refine wl_nil (hK116 _ _ ?_)
    refine region_wl ?_
    refine do_ rfl (.int .i64 (((j + 1) : Nat) : Int)) (ex_add (m := ((j : Nat) : Int)) (n := (1 : Int)) (r := (((j + 1) : Nat) : Int)) rfl rfl (by omega) (by omega) (by omega)) ?_
    simp only [pS, pN, pA, pC, pZ]
    refine do_ rfl (.int .i64 (((j + 1) : Nat) : Int)) (ex_move _) ?_
    simp only [pS, pN, pA, pC, pZ]
    refine wl_nil ?_
    exact hK113 _ _ _ (by omega) ⟨(j + 1), _, rfl, rfl, rfl, S119, (by omega)⟩
   ·refine do_ rfl (.bool false) (ex_lss (m := ((j : Nat) : Int)) (n := (32 : Int)) (b := false) rfl rfl (decide_eq_false (by omega))) ?_
    simp only [pS, pN, pA, pC, pZ]
    refine wl_nil (hK114 _ _ ?_)
    refine wp_seq_k (fun K120 hK120 => ?_)
    refine wp_cond_false rfl ?_
    refine wp_exit ?_
    refine hK104 _ _ ?_
    refine wp_seq_k (fun K121 hK121 => ?_)
    obtain rfl : j = 32 := by omega
    rw [outK_all] at S111
    refine region_wl ?_
    refine do_ rfl (.slice (some ⟨g101, 0, none⟩) 32 32) (ex_move _) ?_
    simp only [pS, pN, pA, pC, pZ]
    refine do_ rfl (.slice (some ⟨g101, 0, none⟩) 32 32) (ex_assign _) ?_
    simp only [pS, pN, pA, pC, pZ]
    refine wl_nil (hK121 _ _ ?_)
    refine wp_ret ?_
    (try simp only [Exit.then, Exit.inBlock, ↓reduceIte, Nat.reduceEqDiff])
    refine bodyPost_ret (v := (.slice (some ⟨g101, 0, none⟩) 32 32)) ?_ rfl ?_
    ·exact res_t rfl rfl
    ·have hB := St.blkRow (k := 1) (l := outL Z) (el := (outL Z).map fun b => [bv b]) (hR := ByC.mono) (cap := 32) S111 (by rw [bytes_flat, List.take_of_length_le (by rw [List.length_map, outL_len]; decide)]) (allR_bytes _ _) (by simp) (by rw [List.length_map, outL_len]) (by rw [outL_len]; decide) (by unfold maxLen; decide) (S111.blk _ (List.mem_cons_self ..)).2.2
     rw [outL_len] at hB
     refine ⟨_, _, rfl, hB.gr, ?_⟩
     have hO := St.own (i := 0) hB rfl
     unfold sumL
     rw [← hZa]
     exact hO
 ·refine do_ rfl (.bool true) (ex_neq (m := ((((padK b k).length % 136) : Nat) : Int)) (n := (0 : Int)) (b := true) rfl rfl (bne_iff_ne.2 (by omega))) ?_
  simp only [pS, pN, pA, pC, pZ]
  refine wl_nil (hK25 _ _ ?_)
  refine wp_cond_true rfl ?_
  refine wp_skip ?_
  refine hK24 _ _ ?_
  refine wp_block ?_
  refine region_wl ?_
  refine do_ rfl (.slice a26 (padK b k).length cap27) (ex_move _) ?_
  simp only [pS, pN, pA, pC, pZ]
  refine stNew S21 (v := fun n => .slice (some ⟨n, 0, none⟩) 1 1) rfl (ex_lit (ps := #[(0, (.int .u8 0))]) (cells := #[(.int .u8 0)]) (E := 5) (bmap1 rfl) (fun w => by kernel_rfl)) (fun n122 w123 S124 => ?_)
  simp only [pS, pN, pA, pC, pZ]
  have S124 : St w F w123 F [⟨n122, [(.int .u8 0)], 5⟩] [ownP 1 ByC ByC.mono 5 w.heap.size (.slice a26 (padK b k).length cap27) (padK b k)] := S124
  refine stPush (i := 0) (r := 0) (p := (0 : UInt8)) (cs := [(.int .u8 0)]) S124 rfl i5 (.int .u8 0) 1 Tryz.underlying25 hi5 hz5 hs5 hb5 rfl (by decide) rfl rfl rfl rfl rfl (bv_one 0) (rfl) (Nat.le_refl _) S124.gr.below.size (by unfold maxLen; omega) (by omega) ?_
  intro v125 w126 S127 hn128
  simp only [pS, pN, pA, pC, pZ]
  have S127 := St.drop S127 (L' := []) (.cons _ (List.Sublist.refl _))
  have S127 : St w F w126 F [] [ownP 1 ByC ByC.mono 5 w.heap.size v125 ((padK b k) ++ [(0 : UInt8)])] := S127
  refine do_ rfl v125 (ex_assign _) ?_
  simp only [pS, pN, pA, pC, pZ]
  refine wl_nil ?_
  rw [padK_step] at S127
  have hk2 : k + 1 ≤ padN b := by unfold padN at *; omega
  exact hK23 _ _ _ (by omega) ⟨(k + 1), v125, _, rfl, rfl, rfl, S127, hk2⟩
/-- A slice of byte slices. -/
def LsC (F : Fz) (cs : List Value) (p : By) : Prop := ∃ a, cs = [a] ∧ Bs F a p
theorem LsC.mono (F F' : Fz) (x : List Value) (p : By) (hl : Le F F') (h : LsC F x p) : LsC F' x p := by
 obtain ⟨a, h1, h2⟩ := h
 exact ⟨a, h1, h2.mono hl⟩
abbrev Lss (F : Fz) (v : Value) (l : List By) : Prop := Sl 1 LsC F v l
theorem Lss.get {F : Fz} {a : Option Addr} {n c : Nat} {l : List By} (h : Lss F (.slice a n c) l) {i : Nat} {p : By} (hp : l[i]? = some p) :
    ∃ b o, a = some ⟨b, o, none⟩ ∧ ∃ xa xc, cellF F b (o + i * 1) = some (.slice xa p.length xc) ∧ Bs F (.slice xa p.length xc) p := by
 obtain ⟨hi, rfl⟩ := List.getElem?_eq_some_iff.1 hp
 have hn := h.len
 obtain ⟨b, o, e, h1⟩ := Sl.at h (by omega) (by omega)
 obtain ⟨cs, q1, ⟨x, rfl, r1⟩, q4⟩ := h1 i hi
 obtain ⟨xa, xc, rfl, _⟩ := r1.shape
 exact ⟨b, o, e, xa, xc, by have := q4 0 (by simp); simpa using this, r1⟩
theorem Lss.mono {F F' : Fz} {v : Value} {l : List By} (h : Lss F v l) (hl : Le F F') : Lss F' v l := Sl.mono LsC.mono h hl
section
variable {P : Program} {ops : Array Oper} {Q : Exit → Act → World → Prop} {a : Act} {w w' : World} {rest : List Oper} {o : Oper} {n : Nat}
end
/-- All cells but one block lie as they lay. -/
def KeepC (b : Nat) (W W' : World) : Prop := ∀ k o, k ≠ b → W.heap[k]? = some o → o.isCells = true → W'.heap[k]? = some o
theorem KeepC.trans {b : Nat} {X Y Z : World} (h : KeepC b X Y) (k : KeepC b Y Z) : KeepC b X Z := fun j o hj ho hc => k j o hj (h j o hj ho hc) hc
theorem KeepC.put {b : Nat} {B : Nat} (W : World) (l : Nat) (o o' : Obj) (_ : B ≤ l) (h : W.heap[l]? = some o) (hc : o.isCells = false) (_ : o.isWalk = false) : KeepC b W (W.putObj l o') := fun k x _ hk hx => by
  rw [World.putObj_heap_other (fun e => by rw [e, h] at hk; cases hk; rw [hc] at hx; cases hx)]
  exact hk
def SatC (F : Fz) (W : World) : Prop := ∀ b c t fr, F b = some (.cells c t fr) → W.heap[b]? = some (.cells c t fr)
theorem SatC.cell {F : Fz} {W : World} (h : SatC F W) {b o : Nat} {v : Value} (hc : cellF F b o = some v) : W.cell? ⟨b, o, none⟩ = some v := by
 unfold cellF at hc
 split at hc
 ·rename_i c t fr hb
  simp [World.cell?, h b _ _ _ hb, hc]
 ·cases hc
theorem SatC.keep {F : Fz} {W W' : World} {b : Nat} (h : SatC F W) (hF : F b = none) (hk : KeepC b W W') : SatC F W' := fun k c t fr hb => hk k _ (fun e => by rw [e, hF] at hb; cases hb) (h k c t fr hb) rfl
theorem Sat.c {F : Fz} {W : World} (h : Sat W F) : SatC F W := fun b c t fr hb => h b _ hb
theorem SatC.below {F : Fz} {w W : World} (h : SatC F w) (hW : Below w.heap.size w W) : SatC F W := fun b c t fr hb => by
  have := h b c t fr hb
  rw [hW.block b (Array.getElem?_eq_some_iff.1 this).1]
  exact this
/-- What the loop over the steps is handed. -/
def BkX (F : Fz) := { x : Nat × Option Addr × Nat × Stp // Bs F (.slice x.2.1 x.2.2.2.other.length x.2.2.1) x.2.2.2.other ∧ x.2.2.2.bit < 145 ∧ x.2.2.2.other.length = 32 }
def bkS {F : Fz} (x : BkX F) : Stp := x.1.2.2.2
def bkV {F : Fz} (x : BkX F) : Value := .slice x.1.2.1 (bkS x).other.length x.1.2.2.1
theorem Bs.cells {F F' : Fz} {v : Value} {l : By} (h : Bs F v l) (hc : ∀ b o u, cellF F b o = some u → cellF F' b o = some u) : Bs F' v l := by
 obtain ⟨a, c, h1, h2, h3, h4, h5⟩ := h
 exact ⟨a, c, h1, h2, h3, h4, h5.imp id fun ⟨b, o, h6, h7⟩ => ⟨b, o, h6, fun j u hu => hc _ _ _ (h7 j u hu)⟩⟩
/-- What holds between two rounds. -/
def UpI {F1 : Fz} (w0 : World) (F0 : Fz) (B b5 : Nat) (d0 : By) (pre : List (BkX F1)) (W : World) : Prop :=
  (w0.heap.size ≤ b5 ∧ b5 < B ∧ w0.heap.size ≤ B ∧ B ≤ W.heap.size) ∧ ∃ F da dc, Gr w0 F0 W F ∧ Le F1 F ∧ (∀ r o, B ≤ r → W.heap[r]? = some o → o.isCells = false → F r = none) ∧ F b5 = none ∧ W.heap[b5]? = some (.cells #[.slice da (pre.foldl (fun d x => up1 (bkS x) d) d0).length dc] 25 (0, 0)) ∧ Bs F (.slice da (pre.foldl (fun d x => up1 (bkS x) d) d0).length dc) (pre.foldl (fun d x => up1 (bkS x) d) d0)
theorem UpI.own {F1 : Fz} {w0 : World} {F0 : Fz} {B b5 : Nat} {d0 : By} : OwnFrom B (UpI (F1 := F1) w0 F0 B b5 d0) := by
 intro pre W W' row ⟨⟨hb1, hb2, hb3, hB⟩, F, da, dc, hG, hle, hcl, h5n, h5, hbs⟩ hg hr
 have hrow : ∀ k, row = some k → F k = none := fun k e => by
  obtain ⟨h1, o, h2, h3⟩ := hr k e
  exact hcl k o h1 h2 h3
 have h5' : W'.heap[b5]? = some (.cells #[.slice da (pre.foldl (fun d x => up1 (bkS x) d) d0).length dc] 25 (0, 0)) := by
  rw [hg.block b5 (Array.getElem?_eq_some_iff.1 h5).1 (fun e => by have := (hr b5 e.symm).1; omega)]
  exact h5
 refine ⟨⟨hb1, hb2, hb3, Nat.le_trans hB hg.size⟩, F, da, dc, ⟨hG.below.grown hg (by omega) (fun k e => by have := (hr k e).1; omega), hG.old, hG.sat.grown hg hrow⟩, hle, fun r o hrB ho hc => ?_, h5n, h5', hbs⟩
 by_cases hlt : r < W.heap.size
 by_cases e : some r = row
 exact hrow r e.symm
 rw [hg.block r hlt e] at ho
 exact hcl r o hrB ho hc
 exact hG.sat.out (by omega)
/-- The box of a step, in a round. -/
def UpX {F1 : Fz} (B : Nat) (fr : Nat → BkX F1 → Array Value) (x : BkX F1) (a' : Act) (W : World) : Prop :=
  ∃ Bx, B ≤ Bx ∧ W.heap[Bx]? = some (.cells #[.int .i64 (((bkS x).bit : Nat) : Int), .bool (bkS x).right, bkV x] 204 (0, 0)) ∧ a' = ⟨fr Bx x, []⟩
theorem UpX.own {F1 : Fz} {B B' : Nat} {fr : Nat → BkX F1 → Array Value} {x : BkX F1} {a' : Act} : OwnFrom B' (fun (_ : Unit) W => UpX B fr x a' W) := by
 rintro _ W W' row ⟨Bx, h1, h2, h3⟩ hg hr
 refine ⟨Bx, h1, ?_, h3⟩
 rw [hg.block Bx (Array.getElem?_eq_some_iff.1 h2).1 (fun e => by obtain ⟨_, o, ho, hc⟩ := hr Bx e.symm; rw [h2] at ho; cases ho; cases hc)]
 exact h2
theorem UpI.below {F1 : Fz} {w0 W w : World} {F0 : Fz} {B b5 : Nat} {d0 : By} {pre : List (BkX F1)} (h : UpI w0 F0 B b5 d0 pre W) (hb : Below W.heap.size W w) : UpI w0 F0 B b5 d0 pre w := by
 obtain ⟨⟨hb1, hb2, hb3, hB⟩, F, da, dc, hG, hle, hcl, h5n, h5, hbs⟩ := h
 refine ⟨⟨hb1, hb2, hb3, Nat.le_trans hB hb.size⟩, F, da, dc, hG.trans (Gr.of_below hG.sat hb), hle, fun r o hrB ho hc => ?_, h5n, (hb.block b5 (Array.getElem?_eq_some_iff.1 h5).1).trans h5, hbs⟩
 by_cases hlt : r < W.heap.size
 rw [hb.block r hlt] at ho
 exact hcl r o hrB ho hc
 exact hG.sat.out (by omega)
theorem UpI.end {F1 : Fz} {w0 W : World} {F0 : Fz} {B b5 D : Nat} {d0 : By} {pre : List (BkX F1)} (h : UpI w0 F0 B b5 d0 pre W) (hD : B ≤ D) (hK : W.heap[D]? = some (.deferred (some []))) :
    ∃ da dc F, W.cell? ⟨b5, 0, none⟩ = some (.slice da (pre.foldl (fun d x => up1 (bkS x) d) d0).length dc) ∧ Gr w0 F0 (W.putObj D (.deferred none)) F ∧ Bs F (.slice da (pre.foldl (fun d x => up1 (bkS x) d) d0).length dc) (pre.foldl (fun d x => up1 (bkS x) d) d0) := by
 obtain ⟨⟨hb1, hb2, hb3, hB⟩, F, da, dc, hG, hle, hcl, h5n, h5, hbs⟩ := h
 exact ⟨da, dc, F, by simp [World.cell?, h5], ⟨hG.below.grown (grownBy_putObj' W D _) (by omega) (fun k e => by cases e; omega), hG.old, hG.sat.grown (grownBy_putObj' W D _) (fun k e => by cases e; exact hcl D _ hD hK rfl)⟩, hbs⟩
/-- The tenants' names and the roots of their trees. -/
def rootsF (l : Forest) : List Pr := l.map fun t => (t.1, rootT t.2)
def rootF (l : Forest) : By := rootT (rootsF l)
theorem hl_two {P : Program} {Q : Exit → Act → World → Prop} {F : Fz} {fuel : Nat} {listed : Array Bool} {a : Act} {w : World} {l : List Oper} {o1 o2 : Oper} (i j : Nat) (hr : Region.ready .any l.toArray listed = [i, j]) (hi : l[i]? = some o1) (hj : l[j]? = some o2)
    (h1 : WL P l.toArray (Exit.then (fun a' w' => Sat w' F ∧ Go.wpAnyH P .any l.toArray Q (fun w => Sat w F) fuel (listed.setIfInBounds i true) a' w') Q) [o1] a w)
    (h2 : WL P l.toArray (Exit.then (fun a' w' => Sat w' F ∧ Go.wpAnyH P .any l.toArray Q (fun w => Sat w F) fuel (listed.setIfInBounds j true) a' w') Q) [o2] a w) : HL P l.toArray Q F (fuel + 1) listed a w := by
 refine ⟨Go.wpAnyH_all hr (by simp) fun k hk => ?_⟩
 have key : ∀ (m : Nat) (o : Oper), l[m]? = some o → WL P l.toArray (Exit.then (fun a' w' => Sat w' F ∧ Go.wpAnyH P .any l.toArray Q (fun w => Sat w F) fuel (listed.setIfInBounds m true) a' w') Q) [o] a w → wpOp P l.toArray Q m (fun a' w' => Sat w' F ∧ Go.wpAnyH P .any l.toArray Q (fun w => Sat w F) fuel (listed.setIfInBounds m true) a' w') a w := by
  intro m o hm h
  have h1 := h.out
  unfold wpList at h1
  unfold wpOp
  have hi' : l.toArray[m]? = some o := by simpa using hm
  simp only [hi']
  split
  rename_i hw
  rw [if_pos hw] at h1
  rcases h1 with h1 | h1
  left
  refine Oper.wp_mono (fun a' w' hk => ?_) (Oper.wp_exit h1)
  exact hk
  exact .inr h1
  rename_i hw
  rw [if_neg hw] at h1
  exact h1
 rcases (by simpa using hk : k = i ∨ k = j) with rfl | rfl
 exact key _ _ hi h1
 exact key _ _ hj h2

structure Tp where
  data : By
  synced : Nat
/-- A commit's bytes behind their length. -/
def bodyB (m : Cm) : By := b8 ((encCm m.turn m.writes).length / 256) :: b8 (encCm m.turn m.writes).length :: encCm m.turn m.writes
/-- .. and their digest's first bytes. -/
def frameB (m : Cm) : By := bodyB m ++ (sumL (bodyB m)).take 4
def tapeB (cs : List Cm) : By := cs.flatMap frameB
def chunkR (r : By) (k : Nat) : Option (Cm × Nat) :=
  if r.length < 2 then none else
  if 4000 < 2 + (r.getD 0 0).toNat * 256 + (r.getD 1 0).toNat ∨ r.length < 2 + (r.getD 0 0).toNat * 256 + (r.getD 1 0).toNat + 4 then none else
  if (sumL (r.take (2 + (r.getD 0 0).toNat * 256 + (r.getD 1 0).toNat))).take 4 ≠ (r.drop (2 + (r.getD 0 0).toNat * 256 + (r.getD 1 0).toNat)).take 4 then none else
  if decE ((r.take (2 + (r.getD 0 0).toNat * 256 + (r.getD 1 0).toNat)).drop 2) ≠ 0 ∨ (decC ((r.take (2 + (r.getD 0 0).toNat * 256 + (r.getD 1 0).toNat)).drop 2)).turn ≠ k + 1 then none else
  some (decC ((r.take (2 + (r.getD 0 0).toNat * 256 + (r.getD 1 0).toNat)).drop 2), 2 + (r.getD 0 0).toNat * 256 + (r.getD 1 0).toNat + 4)
def recL : Nat → By → Nat → List Cm × Nat
  | 0, _, _ => ([], 0)
  | f + 1, r, k => match chunkR r k with
    | none => ([], 0)
    | some p => (p.1 :: (recL f (r.drop p.2) (k + 1)).1, p.2 + (recL f (r.drop p.2) (k + 1)).2)
def recT (d : By) : List Cm × Nat := recL d.length d 0
theorem recL_none {r : By} {k : Nat} (h : chunkR r k = none) (f : Nat) : recL f r k = ([], 0) := by
 cases f with
 | zero => rfl
 | succ f => rw [recL, h]
theorem recL_some {r : By} {k f : Nat} {p : Cm × Nat} (h : chunkR r k = some p) : recL (f + 1) r k = (p.1 :: (recL f (r.drop p.2) (k + 1)).1, p.2 + (recL f (r.drop p.2) (k + 1)).2) := by rw [recL, h]
theorem bodyB_len {m : Cm} (hm : CmOk m) : (bodyB m).length = 2 + (encCm m.turn m.writes).length ∧ (bodyB m).length ≤ 596 ∧ 6 ≤ (bodyB m).length := by
 have := encCm_len hm
 have h : (bodyB m).length = 2 + (encCm m.turn m.writes).length := by simp [bodyB]; omega
 omega
theorem frameB_len {m : Cm} (hm : CmOk m) : (frameB m).length = 6 + (encCm m.turn m.writes).length ∧ (frameB m).length = (bodyB m).length + 4 := by
 have := bodyB_len hm
 have : (frameB m).length = (bodyB m).length + 4 := by
  unfold frameB
  rw [List.length_append, List.length_take, sumL_len]
  omega
 omega
theorem body_num {m : Cm} (hm : CmOk m) {t : By} : 2 + (((frameB m) ++ t).getD 0 0).toNat * 256 + (((frameB m) ++ t).getD 1 0).toNat = (bodyB m).length := by
 have h1 := encCm_len hm
 have h2 := bodyB_len hm
 have e0 : ((frameB m) ++ t).getD 0 0 = b8 ((encCm m.turn m.writes).length / 256) := by simp [frameB, bodyB]
 have e1 : ((frameB m) ++ t).getD 1 0 = b8 (encCm m.turn m.writes).length := by simp [frameB, bodyB]
 rw [e0, e1, b8_toNat (by omega)]
 have : (b8 (encCm m.turn m.writes).length).toNat = (encCm m.turn m.writes).length % 256 := by simp [b8]
 omega
theorem chunk_frame {m : Cm} (hm : CmOk m) {t : By} {k : Nat} : chunkR (frameB m ++ t) k = if m.turn = k + 1 then some (m, (frameB m).length) else none := by
 have h2 := bodyB_len hm
 have h3 := frameB_len hm
 have hl : (frameB m ++ t).length = (bodyB m).length + 4 + t.length := by rw [List.length_append]; omega
 have ht : (frameB m ++ t).take (bodyB m).length = bodyB m := by
  rw [show frameB m = bodyB m ++ (sumL (bodyB m)).take 4 from rfl, List.append_assoc, List.take_left']
  rfl
 have hd : ((frameB m ++ t).drop (bodyB m).length).take 4 = (sumL (bodyB m)).take 4 := by
  rw [show frameB m = bodyB m ++ (sumL (bodyB m)).take 4 from rfl, List.append_assoc, List.drop_left' rfl, List.take_append_of_le_length (by rw [List.length_take, sumL_len]; omega), List.take_take]
  simp
 have hb : (bodyB m).drop 2 = encCm m.turn m.writes := rfl
 obtain ⟨d1, d2⟩ := dec_back hm
 unfold chunkR
 rw [body_num hm, if_neg (by omega), if_neg (by omega), ht, hd, if_neg (by simp), hb, d1, d2]
 by_cases h : m.turn = k + 1
 ·rw [if_neg (by simp [h]), if_pos h, h3.2]
 ·rw [if_pos (.inr h), if_neg h]
theorem chunk_torn {m : Cm} (hm : CmOk m) {n k : Nat} (hn : n < (frameB m).length) : chunkR ((frameB m).take n) k = none := by
 have h2 := bodyB_len hm
 have h3 := frameB_len hm
 unfold chunkR
 have hl : ((frameB m).take n).length = n := by rw [List.length_take]; omega
 rw [hl]
 by_cases h : n < 2
 ·rw [if_pos h]
 ·rw [if_neg h]
  have e : 2 + (((frameB m).take n).getD 0 0).toNat * 256 + (((frameB m).take n).getD 1 0).toNat = (bodyB m).length := by
   rw [← body_num hm (t := [])]
   have q : ∀ i, i < 2 → ((frameB m).take n).getD i 0 = (frameB m ++ []).getD i 0 := by
    intro i hi
    rw [List.append_nil, List.getD_eq_getElem?_getD, List.getD_eq_getElem?_getD, List.getElem?_take_of_lt (by omega)]
   rw [q 0 (by omega), q 1 (by omega)]
  rw [e, if_pos (.inr (by omega))]
theorem tapeB_append (a b : List Cm) : tapeB (a ++ b) = tapeB a ++ tapeB b := by simp [tapeB]
theorem rec_of : ∀ (cs : List Cm) (f k : Nat) (t : By), (∀ c ∈ cs, CmOk c) → (∀ (i : Nat) (h : i < cs.length), cs[i].turn = k + i + 1) → chunkR t (k + cs.length) = none → (tapeB cs ++ t).length ≤ f → recL f (tapeB cs ++ t) k = (cs, (tapeB cs).length)
  | [], f, k, t, _, _, ht, _ => by
    rw [show tapeB ([] : List Cm) ++ t = t from rfl, recL_none (by simpa using ht)]
    rfl
  | c :: cs, f, k, t, hok, htn, ht, hf => by
    have hc := hok c (by simp)
    have h3 := frameB_len hc
    have hb := bodyB_len hc
    have e : tapeB (c :: cs) ++ t = frameB c ++ (tapeB cs ++ t) := by simp [tapeB]
    have ht0 : c.turn = k + 1 := by have := htn 0 (by simp); simpa using this
    have hch := chunk_frame hc (t := tapeB cs ++ t) (k := k)
    rw [if_pos ht0] at hch
    rw [e] at hf ⊢
    match f, hf with
    | 0, hf => rw [List.length_append] at hf; omega
    | f + 1, hf =>
      rw [recL_some hch]
      simp only
      rw [List.drop_left' rfl, rec_of cs f (k + 1) t (fun x hx => hok x (by simp [hx])) (fun i hi => by have := htn (i + 1) (by simpa using hi); simp at this; omega) (by rw [show k + 1 + cs.length = k + (c :: cs).length from by simp; omega]; exact ht) (by rw [List.length_append] at hf; omega)]
      refine Prod.ext rfl ?_
      simp [tapeB]
/-- How many whole commits so many bytes hold. -/
def wholeN : List Cm → Nat → Nat
  | [], _ => 0
  | c :: cs, n => if (frameB c).length ≤ n then 1 + wholeN cs (n - (frameB c).length) else 0
theorem wholeN_le : ∀ (cs : List Cm) (n : Nat), wholeN cs n ≤ cs.length
  | [], _ => by simp [wholeN]
  | c :: cs, n => by
    unfold wholeN
    split
    · have := wholeN_le cs (n - (frameB c).length); simp; omega
    · simp
theorem take_tape : ∀ (cs : List Cm) (n k : Nat), (∀ c ∈ cs, CmOk c) → n ≤ (tapeB cs).length → ∃ t, (tapeB cs).take n = tapeB (cs.take (wholeN cs n)) ++ t ∧ (∀ k, chunkR t k = none) ∧ (t = [] ∨ wholeN cs n < cs.length) ∧ (n = (tapeB cs).length → wholeN cs n = cs.length)
  | [], n, k, _, _ => ⟨[], by simp [tapeB], fun k => by unfold chunkR; rw [if_pos (by simp)], .inl rfl, fun _ => rfl⟩
  | c :: cs, n, k, hok, hn => by
    have hc := hok c (by simp)
    have h3 := frameB_len hc
    have e : tapeB (c :: cs) = frameB c ++ tapeB cs := by simp [tapeB]
    rw [e, List.length_append] at hn
    by_cases hw : (frameB c).length ≤ n
    · obtain ⟨t, h1, h2, h4, h5⟩ := take_tape cs (n - (frameB c).length) k (fun x hx => hok x (by simp [hx])) (by omega)
      have ew : wholeN (c :: cs) n = wholeN cs (n - (frameB c).length) + 1 := by rw [wholeN, if_pos hw]; omega
      refine ⟨t, ?_, h2, ?_, fun h => ?_⟩
      · rw [e, ew, List.take_succ_cons, show n = (frameB c).length + (n - (frameB c).length) from by omega, List.take_append]
        simp only [Nat.add_sub_cancel_left]
        rw [List.take_of_length_le (by omega), h1]
        simp [tapeB]
      · rw [ew, List.length_cons]
        rcases h4 with h4 | h4
        · exact .inl h4
        · exact .inr (by omega)
      · rw [ew, List.length_cons, h5 (by rw [e, List.length_append] at h; omega)]
    · have ew : wholeN (c :: cs) n = 0 := by rw [wholeN, if_neg hw]
      refine ⟨(frameB c).take n, ?_, fun k => chunk_torn hc (by omega), ?_, fun h => ?_⟩
      · rw [e, ew, List.take_append_of_le_length (by omega)]
        simp [tapeB]
      · rw [ew]; exact .inr (by simp)
      · rw [e, List.length_append] at h; omega
theorem rec_tape {m : Nat} {cs : List Cm} (hh : HistOk m cs) {n : Nat} (hn : n ≤ (tapeB cs).length) : recT ((tapeB cs).take n) = (cs.take (wholeN cs n), (tapeB (cs.take (wholeN cs n))).length) := by
 obtain ⟨t, h1, h2, _, _⟩ := take_tape cs n 0 hh.ok hn
 unfold recT
 rw [h1]
 refine rec_of _ _ 0 t (fun c hc => hh.ok c (List.mem_of_mem_take hc)) (fun i hi => ?_) (h2 _) (Nat.le_refl _)
 rw [List.getElem_take]
 have := hh.turn i (by rw [List.length_take] at hi; omega)
 omega
theorem tapeB_len_le {cs : List Cm} (hok : ∀ c ∈ cs, CmOk c) : (tapeB cs).length ≤ 600 * cs.length := by
 induction cs with
 | nil => simp [tapeB]
 | cons c cs ih =>
  have h3 := frameB_len (hok c (by simp))
  have hb := bodyB_len (hok c (by simp))
  have := ih (fun x hx => hok x (by simp [hx]))
  have e : tapeB (c :: cs) = frameB c ++ tapeB cs := by simp [tapeB]
  rw [e, List.length_append, List.length_cons]
  omega
theorem whole_len : ∀ (cs : List Cm) (n : Nat), (tapeB (cs.take (wholeN cs n))).length ≤ n
  | [], n => by simp [tapeB, wholeN]
  | c :: cs, n => by
    unfold wholeN
    split
    · rename_i h
      have := whole_len cs (n - (frameB c).length)
      rw [Nat.add_comm, List.take_succ_cons, show tapeB (c :: cs.take (wholeN cs (n - (frameB c).length))) = frameB c ++ tapeB (cs.take (wholeN cs (n - (frameB c).length))) from by simp [tapeB], List.length_append]
      omega
    · simp [tapeB]
theorem whole_ge : ∀ (cs : List Cm) (k n : Nat), k ≤ cs.length → (tapeB (cs.take k)).length ≤ n → k ≤ wholeN cs n
  | _, 0, _, _, _ => Nat.zero_le _
  | [], k + 1, _, h, _ => by simp at h
  | c :: cs, k + 1, n, hk, h => by
    rw [List.take_succ_cons, show tapeB (c :: cs.take k) = frameB c ++ tapeB (cs.take k) from by simp [tapeB], List.length_append] at h
    rw [wholeN, if_pos (by omega)]
    have := whole_ge cs k (n - (frameB c).length) (by simpa using hk) (by omega)
    omega
theorem cloneO_spec (F : Fz) (w : World) (v : Value) (l : List UInt8) (hs : Sat w F) (hv : Bs F v l) (hm : l.length ≤ 100000) :
    Calls Tryz.prog 45 #[v] w (GivesO w F 1 ByC 5 l) := by
 obtain ⟨a, c, rfl, hlc, hcm⟩ := hv.shape
 obtain ⟨i, hi, hz0, hz1, hz2⟩ := info_parts infoU8
 have hr := hv
 unfold Bs at hr
 have hnil := Lib.run_eql_slice_nil (P := Tryz.prog) w 25 5 a l.length c 0 0 Tryz.underlying25
 cases a with
 | none =>
  have hl : l = [] := by
   obtain ⟨a', c', h1, _, _, h4, _⟩ := hr
   cases h1
   exact List.eq_nil_of_length_eq_zero (h4 rfl).1
  subst hl
  simp only [List.length_nil] at hnil
  go_enter Tryz.func45, Tryz.ntmps45
  go_wp2_with fail
  go_ret
  exact ⟨_, F, rfl, Gr.refl hs, Own.nil _ _⟩
 | some a =>
  have hown := World.ownsRow_lit (base := w.heap.size) (e := 5) (size := 1) w #[] 0 (Nat.le_refl _) (Nat.zero_le _) rfl
  have hsa := hs.alloc (.cells #[] 5)
  go_enter Tryz.func45, Tryz.ntmps45
  go_wp2_with (at_builtin; go_loud (refine wpList_append_any rfl _ _ 25 rfl w.heap.size 5 i (.int .u8 0) 1 1 Tryz.underlying25 hi hz0 hz1 hz2 rfl (by decide) rfl hown rfl hsa hr (by simp) (bv_oneCell _) (by unfold maxLen; omega) (by omega) (by simp) ?_))
  intro v1 w1 hown1 hg _
  have hb : Below w.heap.size w w1 := ((Below.refl _ _).alloc (Nat.le_refl _) _).grown hg (by simp) (fun g hg' => (hown.lt g hg').1)
  clear hg hown
  go_wp2_with fail
  go_ret
  refine ⟨_, F, rfl, Gr.of_below hs hb, ⟨l.map fun b => [bv b], ?_, allR_bytes F l, by simp⟩, fun g hg => hs.out (hown1.lt g hg).1⟩
  rw [bytes_flat]
  simpa using hown1
/-- A tape by value. -/
def TpV (F : Fz) (v : Value) (t : Tp) : Prop := ∃ a c, v = .agg #[.slice a t.data.length c, .int .i64 (t.synced : Nat)] ∧ Bs F (.slice a t.data.length c) t.data
theorem TpV.mono {F F' : Fz} {v : Value} {t : Tp} (h : TpV F v t) (hl : Le F F') : TpV F' v t := by
 obtain ⟨a, c, h1, h2⟩ := h; exact ⟨a, c, h1, h2.mono hl⟩
def GivesTp (w : World) (F : Fz) (t : Tp) (e : Ending) (w' : World) : Prop := ∃ v F', e = .returned (.tuple #[.agg #[v, .int .i64 (t.synced : Nat)], .bool true]) ∧ Gr w F w' F' ∧ Own 1 ByC 5 w.heap.size w' F' v t.data
theorem stGivesTp {P : Program} {ops : Array Oper} {Q : Exit → Act → World → Prop} {a : Act} {rest : List Oper} {o : Oper} {kf : FuncId} {vs : Array Value} {w0 w : World} {F0 F : Fz} {L : List Blk} {M : List RowP} {t : Tp} (S : St w0 F0 w F L M) (hw : Region.wanted o (yielded ops a.tmps) = true)
    (hr : (execOp a.eval o).run P w = .ok (.enter kf vs) w) (hc : Calls P kf vs w (GivesTp w F t))
    (h : ∀ v w' F', St w0 F0 w' F' L (ownP 1 ByC ByC.mono 5 w0.heap.size v t.data :: M) → Le F F' → WL P ops Q rest (a.put o.dst (.tuple #[.agg #[v, .int .i64 (t.synced : Nat)], .bool true])) w') : WL P ops Q (o :: rest) a w :=
  doC hw hr hc fun e w' ⟨v, F', he, g, ho⟩ => ⟨_, he, h v w' F' (S.addRow g ho) (g.le S.sat)⟩
structure TpOk (n : Nat) (t : Tp) : Prop where
  len : t.data.length ≤ n
  syn : t.synced ≤ t.data.length
def TpeV (t : Tp) (e : Int) (F : Fz) (u : Value) : Prop := ∃ v, u = .tuple #[v, .int .i64 e] ∧ TpV F v t
/-- What was known when the call saw more is known to one who sees less. -/
def mixF (w : World) (F G : Fz) : Fz := fun b => if b < w.heap.size then F b else G b
theorem Gr.mix {w w' : World} {F F1 G : Fz} (hl : Le F F1) (h : Gr w F1 w' G) (hs : Sat w F) : Gr w F w' (mixF w F G) := by
 refine ⟨h.below, fun b hb => by unfold mixF; rw [if_pos hb], fun b o hb => ?_⟩
 unfold mixF at hb
 split at hb
 rename_i hlt
 exact h.sat b o (by rw [h.old b hlt]; exact hl b o hb)
 exact h.sat b o hb
theorem ByC.mix {base E : Nat} {w w' : World} {F G : Fz} {v : Value} {l : By} (h : Own 1 ByC E base w' G v l) (hb : w.heap.size ≤ base) : Own 1 ByC E base w' (mixF w F G) v l := by
 obtain ⟨el, h1, h2, h3⟩ := h.ex
 refine ⟨⟨el, h1, h2.imp fun x p hx => hx, h3⟩, fun g hg => ?_⟩
 unfold mixF
 rw [if_neg (by have := (h.lt g hg).1; omega)]
 exact h.out g hg
def GivesSum (w : World) (F : Fz) (b : By) (e : Ending) (w' : World) : Prop := ∃ v F', e = .returned (.tuple #[v, .int .i64 0]) ∧ Gr w F w' F' ∧ Own 1 ByC 5 w.heap.size w' F' v (sumL b)
theorem GivesSum.mix {w w' : World} {F F1 : Fz} {b : By} {e : Ending} (hs : Sat w F) (hl : Le F F1) (h : GivesSum w F1 b e w') : GivesSum w F b e w' := by
 obtain ⟨v, F', he, g, ho⟩ := h
 exact ⟨v, _, he, g.mix hl hs, ByC.mix ho (Nat.le_refl _)⟩
theorem stGivesSum {P : Program} {ops : Array Oper} {Q : Exit → Act → World → Prop} {a : Act} {rest : List Oper} {o : Oper} {kf : FuncId} {vs : Array Value} {w0 w : World} {F0 F F1 : Fz} {L : List Blk} {M : List RowP} {b : By} (S : St w0 F0 w F L M) (hl : Le F F1) (hw : Region.wanted o (yielded ops a.tmps) = true)
    (hr : (execOp a.eval o).run P w = .ok (.enter kf vs) w) (hc : Calls P kf vs w (GivesSum w F1 b))
    (h : ∀ v w' F', St w0 F0 w' F' L (ownP 1 ByC ByC.mono 5 w0.heap.size v (sumL b) :: M) → Le F F' → WL P ops Q rest (a.put o.dst (.tuple #[v, .int .i64 0])) w') : WL P ops Q (o :: rest) a w :=
  doC hw hr hc fun e w' hg => by
    obtain ⟨v, F', he, g, ho⟩ := GivesSum.mix S.sat hl hg
    exact ⟨_, he, h v w' F' (S.addRow g ho) (g.le S.sat)⟩
theorem Sum_own (F : Fz) (w : World) (v : Value) (b : By) (hs : Sat w F) (hT : Tabs w) (hb : Bs F v b) (hn : b.length ≤ 4000) :
    Calls Tryz.prog 96 #[v] w (GivesSum w F b) := by
 obtain ⟨x, y, rfl, hc1', hc2'⟩ := hb.shape
 unfold maxLen at hc2'
 have S := St.start hs
 go_enter Tryz.func96, Tryz.ntmps96
 refine sk fun K1 hK1 => ?_
 iterate 2 refine dy ?_
 refine wn hK1 ?_
 refine wp_seq_k (fun K2 hK2 => ?_)
 refine sk fun K3 hK3 => ?_
 refine dx ?_
 refine dn Tryz.underlying25 ?_
 refine gtrF ?_
 simp only [pq]
 refine wn hK3 ?_
 refine wp_cond_false rfl ?_
 refine wp_skip ?_
 refine hK2 _ _ ?_
 refine sk fun K4 hK4 => ?_
 refine dx ?_
 refine stGivesO ByC.mono S rfl (fn1 (ent_117 _ _)) (sum_own _ _ _ b (S).sat (hT.at S.gr.below) hb (by omega)) ?_
 intro v9 w5 F7 S6 le8
 iterate 2 refine dy ?_
 simp only [pq]
 refine wn hK4 ?_
 refine wp_ret ?_
 try simp only [xt]
 refine bR (res_tt rfl (gD rfl) (gD rfl)) ?_
 exact ⟨_, _, rfl, S6.gr, St.own (i := 0) S6 rfl⟩
theorem open_spec (F : Fz) (w : World) (v : Value) (t : Tp) (hs : Sat w F) (hv : TpV F v t) (ok : TpOk 100000 t) :
    Calls Tryz.prog 95 #[v] w (GivesTp w F t) := by
 obtain ⟨x, y, rfl, hv⟩ := hv
 have h1 := ok.len
 have h2 := ok.syn
 have S := St.start hs
 go_enter Tryz.func95, Tryz.ntmps95
 refine sk fun K1 hK1 => ?_
 refine stNew S (v := fun n => .pointer (aA n 0)) rfl (ex_box (v := (.agg #[(.slice x t.data.length y), (nI t.synced)])) rfl) (fun n2 w3 S4 => ?_)
 refine sA S4 (zero_108 _) fun n5 w6 S7 => ?_
 refine dy ?_
 refine wn hK1 ?_
 refine wp_seq_k (fun K8 hK8 => ?_)
 refine sk fun K9 hK9 => ?_
 refine df (fa_108_1 _ _) ?_
 refine dl (nagg_3 _) S7 1 ?_
 refine lssF ?_
 simp only [pq]
 refine dx ?_
 refine df (fa_108_1 _ _) ?_
 refine dl (nagg_3 _) S7 1 ?_
 simp only [pq]
 refine df (fa_108_0 _ _) ?_
 refine dl (nagg_25 _) S7 1 ?_
 refine dn Tryz.underlying25 ?_
 simp only [pq]
 refine gtrF ?_
 refine dp ?_
 refine dx ?_
 simp only [pq]
 refine df (fa_108_0 _ _) ?_
 refine dl (nagg_25 _) S7 1 ?_
 refine dn Tryz.underlying25 ?_
 simp only [pq]
 refine gtrF ?_
 refine dp ?_
 refine wn hK9 ?_
 refine wp_cond_false rfl ?_
 refine wp_skip ?_
 refine hK8 _ _ ?_
 refine wp_seq_k (fun K10 hK10 => ?_)
 obtain ⟨S11, le12, hc13⟩ := St.freezeBlk S7 (i := 1) rfl
 generalize addF F w6 n2 = F14 at *
 refine region_hl S11 (by kernel_rfl) (fun w16 S15 => ?_)
 refine hl_take 0 rfl (by kernel_rfl) (v := (pP n2 0)) (fun _ _ _ h => h) S15.sat rfl (fun w17 hs18 => ef (fa_108_0 _ _)) ?_
 simp only [pq]
 refine hl_take 1 rfl (by kernel_rfl) (v := (.slice x t.data.length y)) (fun _ _ _ h => h) S15.sat rfl (fun w19 hs20 => ex_load rfl (load1 (nagg_25 _) (St.fz (St.start hs20) (hc13 0 _ rfl)))) ?_
 simp only [pq]
 refine hl_take 3 rfl (by kernel_rfl) (v := (pP n2 1)) (fun _ _ _ h => h) S15.sat rfl (fun w21 hs22 => ef (fa_108_1 _ _)) ?_
 simp only [pq]
 refine hl_take 4 rfl (by kernel_rfl) (v := (nI t.synced)) (fun _ _ _ h => h) S15.sat rfl (fun w23 hs24 => ex_load rfl (load1 (nagg_3 _) (St.fz (St.start hs24) (hc13 1 _ rfl)))) ?_
 simp only [pq]
 refine hl_next 2 (by kernel_rfl) rfl ?_
 refine stGivesO ByC.mono S15 rfl (fn1 (ent_45 _ _)) (cloneO_spec _ _ _ t.data (S15).sat (hv.mono le12) (by omega)) ?_
 intro v25 w26 F28 S27 le29
 simp only [pq]
 obtain ⟨a30, cap31, rfl, h32, h33⟩ := (S27.own (i := 0) rfl).shape
 unfold maxLen at h33
 refine wl_nil (hl_back (Sat.le S27.sat le29) ?_)
 refine hl_take 5 rfl (by kernel_rfl) (v := (.agg #[(.slice a30 t.data.length cap31), (nI t.synced)])) (fun _ _ _ h => h) (Sat.le S27.sat le29) rfl (fun w34 hs35 => ex_build (ps := #[(0, (.slice a30 t.data.length cap31)), (1, (nI t.synced))]) (bmap2 rfl rfl) (by kernel_rfl)) ?_
 simp only [pq]
 refine hl_next 6 (by kernel_rfl) rfl ?_
 refine sW 0 S27 (size_108) fun w36 S37 => ?_
 refine wl_nil (hl_back (Sat.le S37.sat le29) ?_)
 refine hl_take 7 rfl (by kernel_rfl) (v := bT) (fun _ _ _ h => h) (Sat.le S37.sat le29) rfl (fun w38 hs39 => ex_assign _) ?_
 simp only [pq]
 refine hl_done (by kernel_rfl) ?_
 refine hK10 _ _ ?_
 refine wp_ret ?_
 try simp only [xt]
 refine bR (res_ct rfl ⟨_, rfl, lR S37 0 Tryz.underlying108 (size_108)⟩ (gD rfl)) ?_
 exact ⟨_, _, rfl, S37.gr, St.own (i := 0) S37 rfl⟩
theorem sync_spec (F : Fz) (w : World) (v : Value) (t : Tp) (hs : Sat w F) (hv : TpV F v t) (ok : TpOk 100000 t) :
    Calls Tryz.prog 82 #[v] w (Gives w F (TpeV ⟨t.data, t.data.length⟩ 0)) := by
 obtain ⟨x, y, rfl, hv⟩ := hv
 have h1 := ok.len
 have h2 := ok.syn
 have S := St.start hs
 go_enter Tryz.func82, Tryz.ntmps82
 refine sk fun K1 hK1 => ?_
 refine stNew S (v := fun n => .pointer (aA n 0)) rfl (ex_box (v := (.agg #[(.slice x t.data.length y), (nI t.synced)])) rfl) (fun n2 w3 S4 => ?_)
 refine sA S4 (zero_108 _) fun n5 w6 S7 => ?_
 refine dy ?_
 refine wn hK1 ?_
 refine sk fun K8 hK8 => ?_
 refine dR S7 1 Tryz.underlying108 (size_108) ?_
 simp only [pq]
 refine stGivesTp S7 rfl (fn1 (ent_95 _ _)) (open_spec _ _ _ t (S7).sat ⟨_, _, rfl, hv⟩ (⟨by omega, ok.syn⟩)) ?_
 intro v9 w10 F11 S12 le13
 simp only [pq]
 obtain ⟨a14, cap15, rfl, h16, h17⟩ := (S12.own (i := 0) rfl).shape
 unfold maxLen at h17
 refine dx ?_
 iterate 2 refine de ?_
 simp only [pq]
 refine sA S12 (zero_108 _) fun n18 w19 S20 => ?_
 refine sW 0 S20 (size_108) fun w21 S22 => ?_
 refine dy ?_
 simp only [pq]
 refine wn hK8 ?_
 refine wp_seq_k (fun K23 hK23 => ?_)
 refine sk fun K24 hK24 => ?_
 refine dx ?_
 refine dt ?_
 refine wn hK24 ?_
 refine wp_cond_false rfl ?_
 refine wp_skip ?_
 refine hK23 _ _ ?_
 refine wp_seq_k (fun K25 hK25 => ?_)
 obtain ⟨F26, S27, le28, hv29⟩ := St.freeze S22 (i := 0) rfl (Nat.le_refl _)
 have hv29 : Bys _ (.slice a14 t.data.length cap15) t.data := hv29
 have r30 := bs_of_sl hv29
 refine region_wl ?_
 refine df (fa_108_0 _ _) ?_
 refine dl (nagg_25 _) S27 0 ?_
 refine dn Tryz.underlying25 ?_
 simp only [pq]
 refine df (fa_108_1 _ _) ?_
 refine sW 0 S27 (size_3) fun w31 S32 => ?_
 refine wl_nil (hK25 _ _ ?_)
 refine sk fun K33 hK33 => ?_
 refine dR S32 0 Tryz.underlying108 (size_108) ?_
 simp only [pq]
 refine sW 1 S32 (size_108) fun w34 S35 => ?_
 refine dy ?_
 refine wn hK33 ?_
 refine wp_ret ?_
 try simp only [xt]
 refine bR (res_ct rfl ⟨_, rfl, lR S35 1 Tryz.underlying108 (size_108)⟩ (gD rfl)) ?_
 exact ⟨_, _, rfl, S35.gr, _, rfl, _, _, rfl, r30⟩
def crashN (t : Tp) (k : Nat) : Nat := t.synced + min k (t.data.length - t.synced)
theorem append_spec (F : Fz) (w : World) (v u : Value) (t : Tp) (m : Cm) (hs : Sat w F) (hT : Tabs w) (hv : TpV F v t) (hc : CmV F u m) (ok : TpOk 90000 t) (hm : CmOk m) :
    Calls Tryz.prog 110 #[v, u] w (Gives w F (TpeV ⟨t.data ++ frameB m, t.synced⟩ 0)) := by
 obtain ⟨x, y, rfl, hv⟩ := hv
 have h1' := ok.len
 have h2' := ok.syn
 obtain ⟨x1, y1, rfl, h1⟩ := hc
 obtain ⟨_, _, e1, q2, q3⟩ := Sl.shape h1
 injection e1 with _ _ e1
 subst e1
 unfold maxLen at q3
 obtain ⟨i5, hi5, hz5, hs5, hb5⟩ := info_parts infoU8
 have S := St.start hs
 go_enter Tryz.func110, Tryz.ntmps110
 refine sk fun K1 hK1 => ?_
 refine stNew S (v := fun n => .pointer (aA n 0)) rfl (ex_box (v := (.agg #[(.slice x t.data.length y), (nI t.synced)])) rfl) (fun n2 w3 S4 => ?_)
 refine stNew S4 (v := fun n => .pointer (aA n 0)) rfl (ex_box (v := (.agg #[(nI m.turn), (.slice x1 m.writes.length y1)])) rfl) (fun n5 w6 S7 => ?_)
 simp only [pq]
 refine sA S7 (zero_108 _) fun n8 w9 S10 => ?_
 refine dy ?_
 refine wn hK1 ?_
 refine sk fun K11 hK11 => ?_
 refine dR S10 2 Tryz.underlying108 (size_108) ?_
 simp only [pq]
 refine stGivesTp S10 rfl (fn1 (ent_95 _ _)) (open_spec _ _ _ t (S10).sat ⟨_, _, rfl, hv⟩ (⟨by omega, ok.syn⟩)) ?_
 intro v12 w13 F14 S15 le16
 simp only [pq]
 obtain ⟨a17, cap18, rfl, h19, h20⟩ := (S15.own (i := 0) rfl).shape
 unfold maxLen at h20
 refine dx ?_
 iterate 2 refine de ?_
 simp only [pq]
 refine sA S15 (zero_108 _) fun n21 w22 S23 => ?_
 refine sW 0 S23 (size_108) fun w24 S25 => ?_
 refine dy ?_
 simp only [pq]
 refine wn hK11 ?_
 refine wp_seq_k (fun K26 hK26 => ?_)
 refine sk fun K27 hK27 => ?_
 refine dx ?_
 refine dt ?_
 refine wn hK27 ?_
 refine wp_cond_false rfl ?_
 refine wp_skip ?_
 refine hK26 _ _ ?_
 refine sk fun K28 hK28 => ?_
 refine dR S25 2 Tryz.underlying168 (size_168) ?_
 simp only [pq]
 refine stGives S25 rfl (fn1 (ent_134 _ _)) (encode_spec _ _ _ (⟨m.turn, m.writes⟩ : Cm) (S25).sat ⟨_, _, rfl, (h1.mono le16)⟩ hm) ?_
 intro v34 w29 F31 S30 le32 R33
 obtain ⟨_, rfl, r37⟩ := R33
 obtain ⟨a35, c36, rfl, h38, _⟩ := r37.shape
 have h38 : (encCm m.turn m.writes).length ≤ c36 := h38
 have r37 : Bs _ (.slice a35 (encCm m.turn m.writes).length c36) (encCm m.turn m.writes) := r37
 refine dx ?_
 iterate 2 refine de ?_
 simp only [pq]
 iterate 2 refine dy ?_
 refine wn hK28 ?_
 refine wp_seq_k (fun K39 hK39 => ?_)
 refine sk fun K40 hK40 => ?_
 refine dx ?_
 refine dr bF (ex_neq (b := false) rfl rfl (by decide)) ?_
 simp only [pq]
 refine wn hK40 ?_
 refine wp_cond_false rfl ?_
 refine wp_skip ?_
 refine hK39 _ _ ?_
 refine wp_seq_k (fun K41 hK41 => ?_)
 obtain ⟨hb1, hb2, hb3⟩ := bodyB_len hm
 obtain ⟨hf1, hf2⟩ := frameB_len hm
 refine region_wl ?_
 refine dx ?_
 refine dn Tryz.underlying25 ?_
 refine dr (nI ((encCm m.turn m.writes).length / 256)) (ex_shrN (m := ((encCm m.turn m.writes).length)) (n := 8) rfl rfl (by decide)) ?_
 simp only [pq]
 refine dr (bv (b8 ((encCm m.turn m.writes).length / 256))) (ex_convert (v := (nI ((encCm m.turn m.writes).length / 256))) rfl (conv_b8 ((encCm m.turn m.writes).length / 256) _)) ?_
 refine dx ?_
 refine dn Tryz.underlying25 ?_
 simp only [pq]
 refine dr (bv (b8 ((encCm m.turn m.writes).length))) (ex_convert (v := (.int .i64 (((encCm m.turn m.writes).length : Nat) : Int))) rfl (conv_b8 ((encCm m.turn m.writes).length) _)) ?_
 refine stNew S30 (v := fun n => .slice (aA n 0) 2 2) rfl (ex_lit (ps := #[(0, (bv (b8 ((encCm m.turn m.writes).length / 256)))), (1, (bv (b8 ((encCm m.turn m.writes).length))))]) (cells := #[(bv (b8 ((encCm m.turn m.writes).length / 256))), (bv (b8 ((encCm m.turn m.writes).length)))]) (E := 5) (bmap2 rfl rfl) (fun w => by kernel_rfl)) (fun n42 w43 S44 => ?_)
 refine dx ?_
 simp only [pq]
 have S45 : St w F w43 F31 [⟨n21, [(.slice a17 t.data.length cap18), (nI t.synced)], 108⟩, ⟨n8, [Zn, (iI 0)], 108⟩, ⟨n5, [(nI m.turn), (.slice x1 m.writes.length y1)], 168⟩, ⟨n2, [(.slice x t.data.length y), (nI t.synced)], 108⟩] [ownP 1 ByC ByC.mono 5 w.heap.size (.slice (aA n42 0) 2 2) [b8 ((encCm m.turn m.writes).length / 256), b8 (encCm m.turn m.writes).length], ownP 1 ByC ByC.mono 5 w.heap.size (.slice a17 t.data.length cap18) t.data] := St.blkRow (k := 1) (l := [b8 ((encCm m.turn m.writes).length / 256), b8 (encCm m.turn m.writes).length]) (el := [[(bv (b8 ((encCm m.turn m.writes).length / 256)))], [(bv (b8 ((encCm m.turn m.writes).length)))]]) (hR := ByC.mono) S44 rfl ⟨rfl, rfl, trivial⟩ (by simp) rfl (by simp) (by unfold maxLen; decide) (S44.blk _ (List.mem_cons_self ..)).2.2
 refine stAppendS (r := 0) (u := (.slice a35 (encCm m.turn m.writes).length c36)) S45 rfl i5 (.int .u8 0) 1 Tryz.underlying25 hi5 hz5 hs5 hb5 rfl (by decide) rfl rfl rfl (Sl.toW (Bs.sl r37) (S45).sat) ByC.one (Nat.le_refl _) S45.gr.below.size (by unfold maxLen; (try simp only [List.length_append, List.length_cons, List.length_nil]); omega) (by (try simp only [List.length_append, List.length_cons, List.length_nil]); omega) ?_
 intro v46 w47 S48 hn49
 refine dy ?_
 refine wl_nil (hK41 _ _ ?_)
 refine sk fun K50 hK50 => ?_
 refine dx ?_
 simp only [pq]
 obtain ⟨F51, hs52, le53, hsl54⟩ := own_peek S48 (i := 0) rfl
 refine stGivesSum S48 le53 rfl (fn1 (ent_96 _ _)) (Sum_own _ _ _ (bodyB m) hs52 (hT.at S48.gr.below) (bs_of_sl hsl54) (by omega)) ?_
 intro v55 w56 F57 S58 le59
 refine dx ?_
 iterate 2 refine de ?_
 simp only [pq]
 iterate 2 refine dy ?_
 refine wn hK50 ?_
 refine wp_seq_k (fun K60 hK60 => ?_)
 obtain ⟨F61, S62, le63, hv64⟩ := St.freeze S58 (i := 0) rfl (Nat.le_refl _)
 have hv64 : Bys _ v55 (sumL (bodyB m)) := hv64
 have r65 := bs_of_sl hv64
 obtain ⟨a66, c67, rfl, _⟩ := r65.shape
 have hsl := sumL_len (bodyB m)
 have h4 : ((sumL (bodyB m)).take 4).length = 4 := by rw [List.length_take, hsl]; rfl
 have hcs : 32 ≤ c67 := by obtain ⟨_, _, e, q, _⟩ := r65.shape; injection e with _ _ e; omega
 refine region_wl ?_
 iterate 2 refine dx ?_
 simp only [pq]
 have r68 : Bs _ (.slice a66 4 c67) ((sumL (bodyB m)).take 4) := bs_of_sl (Sl.takeN (Bs.sl r65) (by rw [sumL_len]; decide))
 refine dr (.slice a66 4 c67) (ex_slice (l := 0) (h := 4) (sz := 1) Tryz.underlying25 rfl (sizeof_5 _) (.inl ⟨rfl, rfl⟩) (.inr ⟨_, rfl, rfl⟩) (by omega) (by omega) (slice_zero)) ?_
 refine stAppendS (r := 0) (u := (.slice a66 4 c67)) S62 rfl i5 (.int .u8 0) 1 Tryz.underlying25 hi5 hz5 hs5 hb5 rfl (by decide) rfl rfl rfl (Sl.toW (Bs.sl r68) (S62).sat) ByC.one (Nat.le_refl _) S62.gr.below.size (by unfold maxLen; (try simp only [List.length_append, List.length_cons, List.length_nil]); omega) (by (try simp only [List.length_append, List.length_cons, List.length_nil]); omega) ?_
 intro v69 w70 S71 hn72
 refine dy ?_
 refine wl_nil (hK60 _ _ ?_)
 refine wp_seq_k (fun K73 hK73 => ?_)
 refine wp_seq_k (fun K74 hK74 => ?_)
 obtain ⟨a75, cap76, rfl, h77, h78⟩ := (S71.own (i := 0) rfl).shape
 unfold maxLen at h78
 refine region_wl ?_
 refine df (fa_108_0 _ _) ?_
 refine dl (nagg_25 _) S71 0 ?_
 refine dn Tryz.underlying25 ?_
 simp only [pq]
 refine dx ?_
 refine dn Tryz.underlying25 ?_
 refine dr (nI (t.data.length + (frameB m).length)) (ex_add (m := ((t.data.length : Nat) : Int)) (n := (((frameB m).length : Nat) : Int)) (r := (((t.data.length + (frameB m).length) : Nat) : Int)) rfl rfl (by omega) (by omega) (by omega)) ?_
 simp only [pq]
 refine gtrF ?_
 refine wl_nil (hK74 _ _ ?_)
 refine wp_cond_false rfl ?_
 refine wp_skip ?_
 refine hK73 _ _ ?_
 refine wp_seq_k (fun K79 hK79 => ?_)
 obtain ⟨F80, S81, le82, hv83⟩ := St.freeze S71 (i := 0) rfl (Nat.le_refl _)
 have hv83 : Bys _ (.slice a75 (frameB m).length cap76) (frameB m) := hv83
 have r84 := bs_of_sl hv83
 refine region_wl ?_
 refine df (fa_108_0 _ _) ?_
 refine dl (nagg_25 _) S81 0 ?_
 refine dx ?_
 simp only [pq]
 refine stAppendS (r := 0) (u := (.slice a75 (frameB m).length cap76)) S81 rfl i5 (.int .u8 0) 1 Tryz.underlying25 hi5 hz5 hs5 hb5 rfl (by decide) rfl rfl rfl (Sl.toW (Bs.sl r84) (S81).sat) ByC.one (Nat.le_refl _) S81.gr.below.size (by unfold maxLen; (try simp only [List.length_append, List.length_cons, List.length_nil]); omega) (by (try simp only [List.length_append, List.length_cons, List.length_nil]); omega) ?_
 intro v87 w88 S89 hn90
 simp only [pq]
 obtain ⟨a91, cap92, rfl, h93, h94⟩ := (S89.own (i := 0) rfl).shape
 unfold maxLen at h94
 refine df (fa_108_0 _ _) ?_
 refine sW 0 S89 (size_25) fun w95 S96 => ?_
 refine wl_nil (hK79 _ _ ?_)
 refine sk fun K97 hK97 => ?_
 refine dR S96 0 Tryz.underlying108 (size_108) ?_
 simp only [pq]
 refine sW 1 S96 (size_108) fun w98 S99 => ?_
 refine dy ?_
 refine wn hK97 ?_
 refine wp_ret ?_
 try simp only [xt]
 refine bR (res_ct rfl ⟨_, rfl, lR S99 1 Tryz.underlying108 (size_108)⟩ (gD rfl)) ?_
 ·obtain ⟨F100, S101, le102, hv103⟩ := St.freeze S99 (i := 0) rfl (Nat.le_refl _)
  have hv103 : Bys _ (.slice a91 (t.data ++ (frameB m)).length cap92) (t.data ++ (frameB m)) := hv103
  have r104 := bs_of_sl hv103
  exact ⟨_, _, rfl, S101.gr, _, rfl, _, _, rfl, r104⟩
theorem TpV.dropT {w : World} {F : Fz} {n : Nat} {T : TypeId} (hs : Sat w F) (hb : w.heap[n]? = some (.cells [Value.slice none 0 0, Value.int .i64 0].toArray T (0, 0))) (hc : ∀ u ∈ [Value.slice none 0 0, Value.int .i64 0], ∀ x, u ≠ bv x) {u : Value} {t : Tp} (h : TpV F u t) : TpV (dropF F n) u t := by
 obtain ⟨x0, y0, rfl, h0⟩ := h
 exact ⟨x0, y0, rfl, h0.dropF hs hb hc⟩
theorem TpV.zero (F : Fz) : TpV F (.agg #[.slice none 0 0, .int .i64 0]) ⟨[], 0⟩ := ⟨none, 0, rfl, Bs.nil F⟩
/-- The table of what a kind has. -/
def hasL : List Int := [0, 0, 3, 7, 11, 3, 0, 0, 3]
def Has (w : World) : Prop := ∀ i (hi : i < hasL.length), w.cell? ⟨0, i, none⟩ = some (.int .i64 hasL[i])
/-- What wire.Check tells, by the lengths of the parts; h: what the kind has. -/
def partsN (h : Nat) (n y l v : Nat) : Int :=
  if h.testBit 0 ∧ ¬ (1 ≤ n ∧ n ≤ 8) then 1 else if h.testBit 0 ∧ ¬ (1 ≤ y ∧ y ≤ 16) then 1 else if h.testBit 2 ∧ ¬ (1 ≤ l ∧ l ≤ 16) then 1 else if 32 < v then 1
  else if (¬ h.testBit 0 ∧ 0 < n) ∨ (¬ h.testBit 1 ∧ 0 < y) ∨ (¬ h.testBit 2 ∧ 0 < l) ∨ (¬ h.testBit 3 ∧ 0 < v) then 4 else 0
theorem wireCheck_0 (w : World) (k : Nat) (k1 : 1 ≤ k) (k8 : k ≤ 8) (hg : 0 < w.heap.size) (hc : w.cell? ⟨0, k, none⟩ = some (.int .i64 0))
    (a0 a1 a2 a3 : Option Addr) (n y l v c0 c1 c2 c3 : Nat) (bn : n ≤ 9223372036854775807) (by' : y ≤ 9223372036854775807) (bl : l ≤ 9223372036854775807) (bv' : v ≤ 9223372036854775807) (hyc : y ≤ c1) (hyc' : c1 ≤ maxLen) (hlc : l ≤ c2) (hlc' : c2 ≤ maxLen) :
    Calls Tryz.prog 41 #[.agg #[.int .i64 k, .slice a0 n c0, .slice a1 y c1, .slice a2 l c2, .slice a3 v c3]] w (Tells w (.int .i64 (partsN 0 n y l v))) := by
 have HA : Hid (partsN 0 n y l v = if 32 < v then 1 else if 0 < n ∨ 0 < y ∨ 0 < l ∨ 0 < v then 4 else 0) := by
  unfold Hid partsN
  rw [show (0 : Nat).testBit 0 = false from rfl, show (0 : Nat).testBit 1 = false from rfl, show (0 : Nat).testBit 2 = false from rfl, show (0 : Nat).testBit 3 = false from rfl]
  simp
 generalize partsN 0 n y l v = r at *
 have ix0 : ∀ (X : World) (n' y' l' v' : Nat), (Instr.index 91 (.agg #[.slice a0 n' c0, .slice a1 y' c1, .slice a2 l' c2, .slice a3 v' c3]) (.int .i64 0)).run Tryz.prog X = .ok (.slice a0 n' c0) X := fun _ _ _ _ _ => by kernel_rfl
 have ix1 : ∀ (X : World) (n' y' l' v' : Nat), (Instr.index 91 (.agg #[.slice a0 n' c0, .slice a1 y' c1, .slice a2 l' c2, .slice a3 v' c3]) (.int .i64 1)).run Tryz.prog X = .ok (.slice a1 y' c1) X := fun _ _ _ _ _ => by kernel_rfl
 have ix2 : ∀ (X : World) (n' y' l' v' : Nat), (Instr.index 91 (.agg #[.slice a0 n' c0, .slice a1 y' c1, .slice a2 l' c2, .slice a3 v' c3]) (.int .i64 2)).run Tryz.prog X = .ok (.slice a2 l' c2) X := fun _ _ _ _ _ => by kernel_rfl
 have ix3 : ∀ (X : World) (n' y' l' v' : Nat), (Instr.index 91 (.agg #[.slice a0 n' c0, .slice a1 y' c1, .slice a2 l' c2, .slice a3 v' c3]) (.int .i64 3)).run Tryz.prog X = .ok (.slice a3 v' c3) X := fun _ _ _ _ _ => by kernel_rfl
 go_enter Tryz.func41, Tryz.ntmps41
 go_wp2_with fail
 ·go_ret
  exact ⟨retInt (Eq.symm (HA.out.trans (by first | rw [if_pos (by omega)] | rw [if_neg (by omega), if_pos (by omega)] | rw [if_neg (by omega), if_neg (by omega)]))), (Below.refl _ _).alloc (Nat.le_refl _) _⟩
 ·go_loop [58] (fun t => ∃ i : Nat, i ≤ 4 ∧ t = .int .i64 i ∧ (0 < i → n = 0) ∧ (1 < i → y = 0) ∧ (2 < i → l = 0) ∧ (3 < i → v = 0)) (fun t => 4 - (intOf t).toNat)
  case atStart => exact ⟨0, by omega, rfl, by omega⟩
  case round =>
   obtain ⟨i, hi, rfl, hok⟩ := hrel
   have HOK := hid hok
   clear hok
   rcases (by omega : i = 0 ∨ i = 1 ∨ i = 2 ∨ i = 3 ∨ i = 4) with rfl | rfl | rfl | rfl | rfl
   all_goals
    go_wp2_with fail
   all_goals first
    | exact ⟨⟨1, by omega, rfl, (by have h := HOK.out; omega)⟩, by simp [intOf]⟩
    | exact ⟨⟨_, _, _, _, ⟨1, by omega, rfl, (by have h := HOK.out; omega)⟩, rfl, rfl, rfl, rfl⟩, by simp [intOf]⟩
    | exact ⟨⟨2, by omega, rfl, (by have h := HOK.out; omega)⟩, by simp [intOf]⟩
    | exact ⟨⟨_, _, _, _, ⟨2, by omega, rfl, (by have h := HOK.out; omega)⟩, rfl, rfl, rfl, rfl⟩, by simp [intOf]⟩
    | exact ⟨⟨3, by omega, rfl, (by have h := HOK.out; omega)⟩, by simp [intOf]⟩
    | exact ⟨⟨_, _, _, _, ⟨3, by omega, rfl, (by have h := HOK.out; omega)⟩, rfl, rfl, rfl, rfl⟩, by simp [intOf]⟩
    | exact ⟨⟨4, by omega, rfl, (by have h := HOK.out; omega)⟩, by simp [intOf]⟩
    | exact ⟨⟨_, _, _, _, ⟨4, by omega, rfl, (by have h := HOK.out; omega)⟩, rfl, rfl, rfl, rfl⟩, by simp [intOf]⟩
    | (go_ret; have h := HOK.out; exact ⟨retInt (Eq.symm (HA.out.trans (by first | rw [if_pos (by omega)] | rw [if_neg (by omega), if_pos (by omega)] | rw [if_neg (by omega), if_neg (by omega)]))), (Below.refl _ _).alloc (Nat.le_refl _) _⟩)
theorem wireCheck_3 (w : World) (k : Nat) (k1 : 1 ≤ k) (k8 : k ≤ 8) (hg : 0 < w.heap.size) (hc : w.cell? ⟨0, k, none⟩ = some (.int .i64 3))
    (a0 a1 a2 a3 : Option Addr) (n y l v c0 c1 c2 c3 : Nat) (bn : n ≤ 9223372036854775807) (by' : y ≤ 9223372036854775807) (bl : l ≤ 9223372036854775807) (bv' : v ≤ 9223372036854775807) (hyc : y ≤ c1) (hyc' : c1 ≤ maxLen) (hlc : l ≤ c2) (hlc' : c2 ≤ maxLen) :
    Calls Tryz.prog 41 #[.agg #[.int .i64 k, .slice a0 n c0, .slice a1 y c1, .slice a2 l c2, .slice a3 v c3]] w (Tells w (.int .i64 (partsN 3 n y l v))) := by
 have HA : Hid (partsN 3 n y l v = if ¬ (1 ≤ n ∧ n ≤ 8) then 1 else if ¬ (1 ≤ y ∧ y ≤ 16) then 1 else if 32 < v then 1 else if 0 < l ∨ 0 < v then 4 else 0) := by
  unfold Hid partsN
  rw [show (3 : Nat).testBit 0 = true from rfl, show (3 : Nat).testBit 1 = true from rfl, show (3 : Nat).testBit 2 = false from rfl, show (3 : Nat).testBit 3 = false from rfl]
  simp
 generalize partsN 3 n y l v = r at *
 have ix0 : ∀ (X : World) (n' y' l' v' : Nat), (Instr.index 91 (.agg #[.slice a0 n' c0, .slice a1 y' c1, .slice a2 l' c2, .slice a3 v' c3]) (.int .i64 0)).run Tryz.prog X = .ok (.slice a0 n' c0) X := fun _ _ _ _ _ => by kernel_rfl
 have ix1 : ∀ (X : World) (n' y' l' v' : Nat), (Instr.index 91 (.agg #[.slice a0 n' c0, .slice a1 y' c1, .slice a2 l' c2, .slice a3 v' c3]) (.int .i64 1)).run Tryz.prog X = .ok (.slice a1 y' c1) X := fun _ _ _ _ _ => by kernel_rfl
 have ix2 : ∀ (X : World) (n' y' l' v' : Nat), (Instr.index 91 (.agg #[.slice a0 n' c0, .slice a1 y' c1, .slice a2 l' c2, .slice a3 v' c3]) (.int .i64 2)).run Tryz.prog X = .ok (.slice a2 l' c2) X := fun _ _ _ _ _ => by kernel_rfl
 have ix3 : ∀ (X : World) (n' y' l' v' : Nat), (Instr.index 91 (.agg #[.slice a0 n' c0, .slice a1 y' c1, .slice a2 l' c2, .slice a3 v' c3]) (.int .i64 3)).run Tryz.prog X = .ok (.slice a3 v' c3) X := fun _ _ _ _ _ => by kernel_rfl
 by_cases q0 : 1 ≤ n ∧ n ≤ 8
 case neg =>
  have h0 := hid (nameN_bad q0)
  go_enter Tryz.func41, Tryz.ntmps41
  go_wp2_with (go_at_call 42; refine (name_len _ _ _ _).mono ?_; rw [h0.out]; rintro e w' ⟨rfl, rfl⟩)
  go_ret
  exact ⟨retInt (Eq.symm (HA.out.trans (by first | rw [if_pos (by omega)] | rw [if_neg (by omega), if_pos (by omega)] | rw [if_neg (by omega), if_neg (by omega), if_pos (by omega)] | rw [if_neg (by omega), if_neg (by omega), if_neg (by omega), if_pos (by omega)] | rw [if_neg (by omega), if_neg (by omega), if_neg (by omega), if_neg (by omega)]))), (Below.refl _ _).alloc (Nat.le_refl _) _⟩
 by_cases q1 : 1 ≤ y ∧ y ≤ 16
 case neg =>
  have h0 := hid (nameN_ok q0.1 q0.2)
  have h1 := hid (checkN_bad q1)
  go_enter Tryz.func41, Tryz.ntmps41
  go_wp2_with (first | (go_at_call 42; refine (name_len _ _ _ _).mono ?_; rw [h0.out]; rintro e w' ⟨rfl, rfl⟩) | (go_at_call 55; refine (check_len _ _ _ _ hyc hyc').mono ?_; rw [h1.out]; rintro e w' ⟨rfl, rfl⟩))
  go_ret
  exact ⟨retInt (Eq.symm (HA.out.trans (by first | rw [if_pos (by omega)] | rw [if_neg (by omega), if_pos (by omega)] | rw [if_neg (by omega), if_neg (by omega), if_pos (by omega)] | rw [if_neg (by omega), if_neg (by omega), if_neg (by omega), if_pos (by omega)] | rw [if_neg (by omega), if_neg (by omega), if_neg (by omega), if_neg (by omega)]))), (Below.refl _ _).alloc (Nat.le_refl _) _⟩
 have h0 := hid (nameN_ok q0.1 q0.2)
 have h1 := hid (checkN_ok q1.1 q1.2)
 go_enter Tryz.func41, Tryz.ntmps41
 go_wp2_with fail
 refine (name_len _ _ _ _).mono ?_; rw [h0.out]; rintro e w' ⟨rfl, rfl⟩
 go_wp2_with fail
 refine (check_len _ _ _ _ hyc hyc').mono ?_; rw [h1.out]; rintro e w' ⟨rfl, rfl⟩
 go_wp2_with fail
 ·go_ret
  exact ⟨retInt (Eq.symm (HA.out.trans (by first | rw [if_pos (by omega)] | rw [if_neg (by omega), if_pos (by omega)] | rw [if_neg (by omega), if_neg (by omega), if_pos (by omega)] | rw [if_neg (by omega), if_neg (by omega), if_neg (by omega), if_pos (by omega)] | rw [if_neg (by omega), if_neg (by omega), if_neg (by omega), if_neg (by omega)]))), (Below.refl _ _).alloc (Nat.le_refl _) _⟩
 ·go_loop [58] (fun t => ∃ i : Nat, i ≤ 4 ∧ t = .int .i64 i ∧ (2 < i → l = 0) ∧ (3 < i → v = 0)) (fun t => 4 - (intOf t).toNat)
  case atStart => exact ⟨0, by omega, rfl, by omega⟩
  case round =>
   obtain ⟨i, hi, rfl, hok⟩ := hrel
   have HOK := hid hok
   clear hok
   rcases (by omega : i = 0 ∨ i = 1 ∨ i = 2 ∨ i = 3 ∨ i = 4) with rfl | rfl | rfl | rfl | rfl
   all_goals
    go_wp2_with fail
   all_goals first
    | exact ⟨⟨1, by omega, rfl, (by have h := HOK.out; omega)⟩, by simp [intOf]⟩
    | exact ⟨⟨_, _, _, _, ⟨1, by omega, rfl, (by have h := HOK.out; omega)⟩, rfl, rfl, rfl, rfl⟩, by simp [intOf]⟩
    | exact ⟨⟨2, by omega, rfl, (by have h := HOK.out; omega)⟩, by simp [intOf]⟩
    | exact ⟨⟨_, _, _, _, ⟨2, by omega, rfl, (by have h := HOK.out; omega)⟩, rfl, rfl, rfl, rfl⟩, by simp [intOf]⟩
    | exact ⟨⟨3, by omega, rfl, (by have h := HOK.out; omega)⟩, by simp [intOf]⟩
    | exact ⟨⟨_, _, _, _, ⟨3, by omega, rfl, (by have h := HOK.out; omega)⟩, rfl, rfl, rfl, rfl⟩, by simp [intOf]⟩
    | exact ⟨⟨4, by omega, rfl, (by have h := HOK.out; omega)⟩, by simp [intOf]⟩
    | exact ⟨⟨_, _, _, _, ⟨4, by omega, rfl, (by have h := HOK.out; omega)⟩, rfl, rfl, rfl, rfl⟩, by simp [intOf]⟩
    | (go_ret; have h := HOK.out; exact ⟨retInt (Eq.symm (HA.out.trans (by first | rw [if_pos (by omega)] | rw [if_neg (by omega), if_pos (by omega)] | rw [if_neg (by omega), if_neg (by omega), if_pos (by omega)] | rw [if_neg (by omega), if_neg (by omega), if_neg (by omega), if_pos (by omega)] | rw [if_neg (by omega), if_neg (by omega), if_neg (by omega), if_neg (by omega)]))), (Below.refl _ _).alloc (Nat.le_refl _) _⟩)
theorem wireCheck_7 (w : World) (k : Nat) (k1 : 1 ≤ k) (k8 : k ≤ 8) (hg : 0 < w.heap.size) (hc : w.cell? ⟨0, k, none⟩ = some (.int .i64 7))
    (a0 a1 a2 a3 : Option Addr) (n y l v c0 c1 c2 c3 : Nat) (bn : n ≤ 9223372036854775807) (by' : y ≤ 9223372036854775807) (bl : l ≤ 9223372036854775807) (bv' : v ≤ 9223372036854775807) (hyc : y ≤ c1) (hyc' : c1 ≤ maxLen) (hlc : l ≤ c2) (hlc' : c2 ≤ maxLen) :
    Calls Tryz.prog 41 #[.agg #[.int .i64 k, .slice a0 n c0, .slice a1 y c1, .slice a2 l c2, .slice a3 v c3]] w (Tells w (.int .i64 (partsN 7 n y l v))) := by
 have HA : Hid (partsN 7 n y l v = if ¬ (1 ≤ n ∧ n ≤ 8) then 1 else if ¬ (1 ≤ y ∧ y ≤ 16) then 1 else if ¬ (1 ≤ l ∧ l ≤ 16) then 1 else if 32 < v then 1 else if 0 < v then 4 else 0) := by
  unfold Hid partsN
  rw [show (7 : Nat).testBit 0 = true from rfl, show (7 : Nat).testBit 1 = true from rfl, show (7 : Nat).testBit 2 = true from rfl, show (7 : Nat).testBit 3 = false from rfl]
  simp
 generalize partsN 7 n y l v = r at *
 have ix0 : ∀ (X : World) (n' y' l' v' : Nat), (Instr.index 91 (.agg #[.slice a0 n' c0, .slice a1 y' c1, .slice a2 l' c2, .slice a3 v' c3]) (.int .i64 0)).run Tryz.prog X = .ok (.slice a0 n' c0) X := fun _ _ _ _ _ => by kernel_rfl
 have ix1 : ∀ (X : World) (n' y' l' v' : Nat), (Instr.index 91 (.agg #[.slice a0 n' c0, .slice a1 y' c1, .slice a2 l' c2, .slice a3 v' c3]) (.int .i64 1)).run Tryz.prog X = .ok (.slice a1 y' c1) X := fun _ _ _ _ _ => by kernel_rfl
 have ix2 : ∀ (X : World) (n' y' l' v' : Nat), (Instr.index 91 (.agg #[.slice a0 n' c0, .slice a1 y' c1, .slice a2 l' c2, .slice a3 v' c3]) (.int .i64 2)).run Tryz.prog X = .ok (.slice a2 l' c2) X := fun _ _ _ _ _ => by kernel_rfl
 have ix3 : ∀ (X : World) (n' y' l' v' : Nat), (Instr.index 91 (.agg #[.slice a0 n' c0, .slice a1 y' c1, .slice a2 l' c2, .slice a3 v' c3]) (.int .i64 3)).run Tryz.prog X = .ok (.slice a3 v' c3) X := fun _ _ _ _ _ => by kernel_rfl
 by_cases q0 : 1 ≤ n ∧ n ≤ 8
 case neg =>
  have h0 := hid (nameN_bad q0)
  go_enter Tryz.func41, Tryz.ntmps41
  go_wp2_with (go_at_call 42; refine (name_len _ _ _ _).mono ?_; rw [h0.out]; rintro e w' ⟨rfl, rfl⟩)
  go_ret
  exact ⟨retInt (Eq.symm (HA.out.trans (by first | rw [if_pos (by omega)] | rw [if_neg (by omega), if_pos (by omega)] | rw [if_neg (by omega), if_neg (by omega), if_pos (by omega)] | rw [if_neg (by omega), if_neg (by omega), if_neg (by omega), if_pos (by omega)] | rw [if_neg (by omega), if_neg (by omega), if_neg (by omega), if_neg (by omega), if_pos (by omega)] | rw [if_neg (by omega), if_neg (by omega), if_neg (by omega), if_neg (by omega), if_neg (by omega)]))), (Below.refl _ _).alloc (Nat.le_refl _) _⟩
 by_cases q1 : 1 ≤ y ∧ y ≤ 16
 case neg =>
  have h0 := hid (nameN_ok q0.1 q0.2)
  have h1 := hid (checkN_bad q1)
  go_enter Tryz.func41, Tryz.ntmps41
  go_wp2_with (first | (go_at_call 42; refine (name_len _ _ _ _).mono ?_; rw [h0.out]; rintro e w' ⟨rfl, rfl⟩) | (go_at_call 55; refine (check_len _ _ _ _ hyc hyc').mono ?_; rw [h1.out]; rintro e w' ⟨rfl, rfl⟩))
  go_ret
  exact ⟨retInt (Eq.symm (HA.out.trans (by first | rw [if_pos (by omega)] | rw [if_neg (by omega), if_pos (by omega)] | rw [if_neg (by omega), if_neg (by omega), if_pos (by omega)] | rw [if_neg (by omega), if_neg (by omega), if_neg (by omega), if_pos (by omega)] | rw [if_neg (by omega), if_neg (by omega), if_neg (by omega), if_neg (by omega), if_pos (by omega)] | rw [if_neg (by omega), if_neg (by omega), if_neg (by omega), if_neg (by omega), if_neg (by omega)]))), (Below.refl _ _).alloc (Nat.le_refl _) _⟩
 have h0 := hid (nameN_ok q0.1 q0.2)
 have h1 := hid (checkN_ok q1.1 q1.2)
 by_cases q2 : 1 ≤ l ∧ l ≤ 16
 case neg =>
  have h2 := hid (checkN_bad q2)
  go_enter Tryz.func41, Tryz.ntmps41
  go_wp2_with fail
  refine (name_len _ _ _ _).mono ?_; rw [h0.out]; rintro e w' ⟨rfl, rfl⟩
  go_wp2_with fail
  refine (check_len _ _ _ _ hyc hyc').mono ?_; rw [h1.out]; rintro e w' ⟨rfl, rfl⟩
  go_wp2_with fail
  refine (check_len _ _ _ _ hlc hlc').mono ?_; rw [h2.out]; rintro e w' ⟨rfl, rfl⟩
  go_wp2_with fail
  go_ret
  exact ⟨retInt (Eq.symm (HA.out.trans (by first | rw [if_pos (by omega)] | rw [if_neg (by omega), if_pos (by omega)] | rw [if_neg (by omega), if_neg (by omega), if_pos (by omega)] | rw [if_neg (by omega), if_neg (by omega), if_neg (by omega), if_pos (by omega)] | rw [if_neg (by omega), if_neg (by omega), if_neg (by omega), if_neg (by omega), if_pos (by omega)] | rw [if_neg (by omega), if_neg (by omega), if_neg (by omega), if_neg (by omega), if_neg (by omega)]))), (Below.refl _ _).alloc (Nat.le_refl _) _⟩
 have h2 := hid (checkN_ok q2.1 q2.2)
 go_enter Tryz.func41, Tryz.ntmps41
 go_wp2_with fail
 refine (name_len _ _ _ _).mono ?_; rw [h0.out]; rintro e w' ⟨rfl, rfl⟩
 go_wp2_with fail
 refine (check_len _ _ _ _ hyc hyc').mono ?_; rw [h1.out]; rintro e w' ⟨rfl, rfl⟩
 go_wp2_with fail
 refine (check_len _ _ _ _ hlc hlc').mono ?_; rw [h2.out]; rintro e w' ⟨rfl, rfl⟩
 go_wp2_with fail
 ·go_ret
  exact ⟨retInt (Eq.symm (HA.out.trans (by first | rw [if_pos (by omega)] | rw [if_neg (by omega), if_pos (by omega)] | rw [if_neg (by omega), if_neg (by omega), if_pos (by omega)] | rw [if_neg (by omega), if_neg (by omega), if_neg (by omega), if_pos (by omega)] | rw [if_neg (by omega), if_neg (by omega), if_neg (by omega), if_neg (by omega), if_pos (by omega)] | rw [if_neg (by omega), if_neg (by omega), if_neg (by omega), if_neg (by omega), if_neg (by omega)]))), (Below.refl _ _).alloc (Nat.le_refl _) _⟩
 ·go_loop [58] (fun t => ∃ i : Nat, i ≤ 4 ∧ t = .int .i64 i ∧ (3 < i → v = 0)) (fun t => 4 - (intOf t).toNat)
  case atStart => exact ⟨0, by omega, rfl, by omega⟩
  case round =>
   obtain ⟨i, hi, rfl, hok⟩ := hrel
   have HOK := hid hok
   clear hok
   rcases (by omega : i = 0 ∨ i = 1 ∨ i = 2 ∨ i = 3 ∨ i = 4) with rfl | rfl | rfl | rfl | rfl
   all_goals
    go_wp2_with fail
   all_goals first
    | exact ⟨⟨1, by omega, rfl, (by have h := HOK.out; omega)⟩, by simp [intOf]⟩
    | exact ⟨⟨_, _, _, _, ⟨1, by omega, rfl, (by have h := HOK.out; omega)⟩, rfl, rfl, rfl, rfl⟩, by simp [intOf]⟩
    | exact ⟨⟨2, by omega, rfl, (by have h := HOK.out; omega)⟩, by simp [intOf]⟩
    | exact ⟨⟨_, _, _, _, ⟨2, by omega, rfl, (by have h := HOK.out; omega)⟩, rfl, rfl, rfl, rfl⟩, by simp [intOf]⟩
    | exact ⟨⟨3, by omega, rfl, (by have h := HOK.out; omega)⟩, by simp [intOf]⟩
    | exact ⟨⟨_, _, _, _, ⟨3, by omega, rfl, (by have h := HOK.out; omega)⟩, rfl, rfl, rfl, rfl⟩, by simp [intOf]⟩
    | exact ⟨⟨4, by omega, rfl, (by have h := HOK.out; omega)⟩, by simp [intOf]⟩
    | exact ⟨⟨_, _, _, _, ⟨4, by omega, rfl, (by have h := HOK.out; omega)⟩, rfl, rfl, rfl, rfl⟩, by simp [intOf]⟩
    | (go_ret; have h := HOK.out; exact ⟨retInt (Eq.symm (HA.out.trans (by first | rw [if_pos (by omega)] | rw [if_neg (by omega), if_pos (by omega)] | rw [if_neg (by omega), if_neg (by omega), if_pos (by omega)] | rw [if_neg (by omega), if_neg (by omega), if_neg (by omega), if_pos (by omega)] | rw [if_neg (by omega), if_neg (by omega), if_neg (by omega), if_neg (by omega), if_pos (by omega)] | rw [if_neg (by omega), if_neg (by omega), if_neg (by omega), if_neg (by omega), if_neg (by omega)]))), (Below.refl _ _).alloc (Nat.le_refl _) _⟩)
theorem wireCheck_11 (w : World) (k : Nat) (k1 : 1 ≤ k) (k8 : k ≤ 8) (hg : 0 < w.heap.size) (hc : w.cell? ⟨0, k, none⟩ = some (.int .i64 11))
    (a0 a1 a2 a3 : Option Addr) (n y l v c0 c1 c2 c3 : Nat) (bn : n ≤ 9223372036854775807) (by' : y ≤ 9223372036854775807) (bl : l ≤ 9223372036854775807) (bv' : v ≤ 9223372036854775807) (hyc : y ≤ c1) (hyc' : c1 ≤ maxLen) (hlc : l ≤ c2) (hlc' : c2 ≤ maxLen) :
    Calls Tryz.prog 41 #[.agg #[.int .i64 k, .slice a0 n c0, .slice a1 y c1, .slice a2 l c2, .slice a3 v c3]] w (Tells w (.int .i64 (partsN 11 n y l v))) := by
 have HA : Hid (partsN 11 n y l v = if ¬ (1 ≤ n ∧ n ≤ 8) then 1 else if ¬ (1 ≤ y ∧ y ≤ 16) then 1 else if 32 < v then 1 else if 0 < l then 4 else 0) := by
  unfold Hid partsN
  rw [show (11 : Nat).testBit 0 = true from rfl, show (11 : Nat).testBit 1 = true from rfl, show (11 : Nat).testBit 2 = false from rfl, show (11 : Nat).testBit 3 = true from rfl]
  simp
 generalize partsN 11 n y l v = r at *
 have ix0 : ∀ (X : World) (n' y' l' v' : Nat), (Instr.index 91 (.agg #[.slice a0 n' c0, .slice a1 y' c1, .slice a2 l' c2, .slice a3 v' c3]) (.int .i64 0)).run Tryz.prog X = .ok (.slice a0 n' c0) X := fun _ _ _ _ _ => by kernel_rfl
 have ix1 : ∀ (X : World) (n' y' l' v' : Nat), (Instr.index 91 (.agg #[.slice a0 n' c0, .slice a1 y' c1, .slice a2 l' c2, .slice a3 v' c3]) (.int .i64 1)).run Tryz.prog X = .ok (.slice a1 y' c1) X := fun _ _ _ _ _ => by kernel_rfl
 have ix2 : ∀ (X : World) (n' y' l' v' : Nat), (Instr.index 91 (.agg #[.slice a0 n' c0, .slice a1 y' c1, .slice a2 l' c2, .slice a3 v' c3]) (.int .i64 2)).run Tryz.prog X = .ok (.slice a2 l' c2) X := fun _ _ _ _ _ => by kernel_rfl
 have ix3 : ∀ (X : World) (n' y' l' v' : Nat), (Instr.index 91 (.agg #[.slice a0 n' c0, .slice a1 y' c1, .slice a2 l' c2, .slice a3 v' c3]) (.int .i64 3)).run Tryz.prog X = .ok (.slice a3 v' c3) X := fun _ _ _ _ _ => by kernel_rfl
 by_cases q0 : 1 ≤ n ∧ n ≤ 8
 case neg =>
  have h0 := hid (nameN_bad q0)
  go_enter Tryz.func41, Tryz.ntmps41
  go_wp2_with (go_at_call 42; refine (name_len _ _ _ _).mono ?_; rw [h0.out]; rintro e w' ⟨rfl, rfl⟩)
  go_ret
  exact ⟨retInt (Eq.symm (HA.out.trans (by first | rw [if_pos (by omega)] | rw [if_neg (by omega), if_pos (by omega)] | rw [if_neg (by omega), if_neg (by omega), if_pos (by omega)] | rw [if_neg (by omega), if_neg (by omega), if_neg (by omega), if_pos (by omega)] | rw [if_neg (by omega), if_neg (by omega), if_neg (by omega), if_neg (by omega)]))), (Below.refl _ _).alloc (Nat.le_refl _) _⟩
 by_cases q1 : 1 ≤ y ∧ y ≤ 16
 case neg =>
  have h0 := hid (nameN_ok q0.1 q0.2)
  have h1 := hid (checkN_bad q1)
  go_enter Tryz.func41, Tryz.ntmps41
  go_wp2_with (first | (go_at_call 42; refine (name_len _ _ _ _).mono ?_; rw [h0.out]; rintro e w' ⟨rfl, rfl⟩) | (go_at_call 55; refine (check_len _ _ _ _ hyc hyc').mono ?_; rw [h1.out]; rintro e w' ⟨rfl, rfl⟩))
  go_ret
  exact ⟨retInt (Eq.symm (HA.out.trans (by first | rw [if_pos (by omega)] | rw [if_neg (by omega), if_pos (by omega)] | rw [if_neg (by omega), if_neg (by omega), if_pos (by omega)] | rw [if_neg (by omega), if_neg (by omega), if_neg (by omega), if_pos (by omega)] | rw [if_neg (by omega), if_neg (by omega), if_neg (by omega), if_neg (by omega)]))), (Below.refl _ _).alloc (Nat.le_refl _) _⟩
 have h0 := hid (nameN_ok q0.1 q0.2)
 have h1 := hid (checkN_ok q1.1 q1.2)
 go_enter Tryz.func41, Tryz.ntmps41
 go_wp2_with fail
 refine (name_len _ _ _ _).mono ?_; rw [h0.out]; rintro e w' ⟨rfl, rfl⟩
 go_wp2_with fail
 refine (check_len _ _ _ _ hyc hyc').mono ?_; rw [h1.out]; rintro e w' ⟨rfl, rfl⟩
 go_wp2_with fail
 ·go_ret
  exact ⟨retInt (Eq.symm (HA.out.trans (by first | rw [if_pos (by omega)] | rw [if_neg (by omega), if_pos (by omega)] | rw [if_neg (by omega), if_neg (by omega), if_pos (by omega)] | rw [if_neg (by omega), if_neg (by omega), if_neg (by omega), if_pos (by omega)] | rw [if_neg (by omega), if_neg (by omega), if_neg (by omega), if_neg (by omega)]))), (Below.refl _ _).alloc (Nat.le_refl _) _⟩
 ·go_loop [58] (fun t => ∃ i : Nat, i ≤ 4 ∧ t = .int .i64 i ∧ (2 < i → l = 0)) (fun t => 4 - (intOf t).toNat)
  case atStart => exact ⟨0, by omega, rfl, by omega⟩
  case round =>
   obtain ⟨i, hi, rfl, hok⟩ := hrel
   have HOK := hid hok
   clear hok
   rcases (by omega : i = 0 ∨ i = 1 ∨ i = 2 ∨ i = 3 ∨ i = 4) with rfl | rfl | rfl | rfl | rfl
   all_goals
    go_wp2_with fail
   all_goals first
    | exact ⟨⟨1, by omega, rfl, (by have h := HOK.out; omega)⟩, by simp [intOf]⟩
    | exact ⟨⟨_, _, _, _, ⟨1, by omega, rfl, (by have h := HOK.out; omega)⟩, rfl, rfl, rfl, rfl⟩, by simp [intOf]⟩
    | exact ⟨⟨2, by omega, rfl, (by have h := HOK.out; omega)⟩, by simp [intOf]⟩
    | exact ⟨⟨_, _, _, _, ⟨2, by omega, rfl, (by have h := HOK.out; omega)⟩, rfl, rfl, rfl, rfl⟩, by simp [intOf]⟩
    | exact ⟨⟨3, by omega, rfl, (by have h := HOK.out; omega)⟩, by simp [intOf]⟩
    | exact ⟨⟨_, _, _, _, ⟨3, by omega, rfl, (by have h := HOK.out; omega)⟩, rfl, rfl, rfl, rfl⟩, by simp [intOf]⟩
    | exact ⟨⟨4, by omega, rfl, (by have h := HOK.out; omega)⟩, by simp [intOf]⟩
    | exact ⟨⟨_, _, _, _, ⟨4, by omega, rfl, (by have h := HOK.out; omega)⟩, rfl, rfl, rfl, rfl⟩, by simp [intOf]⟩
    | (go_ret; have h := HOK.out; exact ⟨retInt (Eq.symm (HA.out.trans (by first | rw [if_pos (by omega)] | rw [if_neg (by omega), if_pos (by omega)] | rw [if_neg (by omega), if_neg (by omega), if_pos (by omega)] | rw [if_neg (by omega), if_neg (by omega), if_neg (by omega), if_pos (by omega)] | rw [if_neg (by omega), if_neg (by omega), if_neg (by omega), if_neg (by omega)]))), (Below.refl _ _).alloc (Nat.le_refl _) _⟩)
/-- A request by value. -/
def ReqV (F : Fz) (v : Value) (kind : Int) (n y l x : List UInt8) : Prop := ∃ a b c d, v = .agg #[.int .i64 kind, a, b, c, d] ∧ Bs F a n ∧ Bs F b y ∧ Bs F c l ∧ Bs F d x
def wireN (k : Nat) (n y l v : Nat) : Int := partsN (hasL.getD k 0).toNat n y l v
theorem wireCheck_spec (F : Fz) (w : World) (v : Value) (k : Nat) (n y l x : List UInt8) (k1 : 1 ≤ k) (k8 : k ≤ 8) (hh : Has w) (hv : ReqV F v k n y l x) :
    Calls Tryz.prog 41 #[v] w (Tells w (.int .i64 (wireN k n.length y.length l.length x.length))) := by
 obtain ⟨a, b, c, d, rfl, ha, hb, hc, hd⟩ := hv
 obtain ⟨a0, c0, rfl, e1, e2⟩ := ha.shape
 obtain ⟨a1, c1, rfl, e3, e4⟩ := hb.shape
 obtain ⟨a2, c2, rfl, e5, e6⟩ := hc.shape
 obtain ⟨a3, c3, rfl, e7, e8⟩ := hd.shape
 have f2 := e2
 have f4 := e4
 have f6 := e6
 have f8 := e8
 unfold maxLen at f2 f4 f6 f8
 have hg : 0 < w.heap.size := World.block_lt_of_cell? w ⟨0, 0, none⟩ (hh 0 (by decide))
 have hk := hh k (by simp [hasL]; omega)
 unfold wireN
 rcases (by omega : k = 1 ∨ k = 2 ∨ k = 3 ∨ k = 4 ∨ k = 5 ∨ k = 6 ∨ k = 7 ∨ k = 8) with rfl | rfl | rfl | rfl | rfl | rfl | rfl | rfl
 ·exact wireCheck_0 w 1 k1 k8 hg hk _ _ _ _ _ _ _ _ _ _ _ _ (by omega) (by omega) (by omega) (by omega) e3 e4 e5 e6
 ·exact wireCheck_3 w 2 k1 k8 hg hk _ _ _ _ _ _ _ _ _ _ _ _ (by omega) (by omega) (by omega) (by omega) e3 e4 e5 e6
 ·exact wireCheck_7 w 3 k1 k8 hg hk _ _ _ _ _ _ _ _ _ _ _ _ (by omega) (by omega) (by omega) (by omega) e3 e4 e5 e6
 ·exact wireCheck_11 w 4 k1 k8 hg hk _ _ _ _ _ _ _ _ _ _ _ _ (by omega) (by omega) (by omega) (by omega) e3 e4 e5 e6
 ·exact wireCheck_3 w 5 k1 k8 hg hk _ _ _ _ _ _ _ _ _ _ _ _ (by omega) (by omega) (by omega) (by omega) e3 e4 e5 e6
 ·exact wireCheck_0 w 6 k1 k8 hg hk _ _ _ _ _ _ _ _ _ _ _ _ (by omega) (by omega) (by omega) (by omega) e3 e4 e5 e6
 ·exact wireCheck_0 w 7 k1 k8 hg hk _ _ _ _ _ _ _ _ _ _ _ _ (by omega) (by omega) (by omega) (by omega) e3 e4 e5 e6
 ·exact wireCheck_3 w 8 k1 k8 hg hk _ _ _ _ _ _ _ _ _ _ _ _ (by omega) (by omega) (by omega) (by omega) e3 e4 e5 e6
theorem Has.below {w w' : World} (h : Has w) (hb : Below w.heap.size w w') : Has w' := fun i hi => by
  rw [hb.cell (World.block_lt_of_cell? w ⟨0, i, none⟩ (h i hi))]; exact h i hi
def hasN (k : Nat) : Nat := (hasL.getD k 0).toNat
def Rq.part (r : Rq) : Nat → By
  | 0 => r.name
  | 1 => r.key
  | 2 => r.last
  | _ => r.value
def Rq.put (r : Rq) : Nat → By → Rq
  | 0, p => { r with name := p }
  | 1, p => { r with key := p }
  | 2, p => { r with last := p }
  | _, p => { r with value := p }
def encPre (h : Nat) (r : Rq) : Nat → By
  | 0 => []
  | i + 1 => encPre h r i ++ optE (h.testBit i) (r.part i)
theorem encPre_all (h : Nat) (r : Rq) : encPre h r 4 = encW h r := by
 simp [encPre, encW, Rq.part]
theorem encPre_no {h i : Nat} (r : Rq) (e : h.testBit i = false) : encPre h r (i + 1) = encPre h r i := by
 simp [encPre, optE, e]
theorem encPre_yes {h i : Nat} (r : Rq) (e : h.testBit i = true) : encPre h r (i + 1) = encPre h r i ++ b8 (r.part i).length :: r.part i := by
 simp [encPre, optE, e, encPart]
def decFrom (h : Nat) : Nat → Nat → Rq → By → Option (Rq × By)
  | 0, _, r, b => some (r, b)
  | n + 1, i, r, b => if h.testBit i = true then
      match partW b with
      | none => none
      | some p => decFrom h n (i + 1) (r.put i p.1) p.2
    else decFrom h n (i + 1) r b
theorem decFrom_no {h n i : Nat} {r : Rq} {b : By} (e : h.testBit i = false) : decFrom h (n + 1) i r b = decFrom h n (i + 1) r b := by
 rw [decFrom, if_neg (by rw [e]; decide)]
theorem decFrom_none {h n i : Nat} {r : Rq} {b : By} (e : h.testBit i = true) (k : partW b = none) : decFrom h (n + 1) i r b = none := by
 rw [decFrom, if_pos e, k]
theorem decFrom_some {h n i : Nat} {r : Rq} {b : By} {p : By × By} (e : h.testBit i = true) (k : partW b = some p) : decFrom h (n + 1) i r b = decFrom h n (i + 1) (r.put i p.1) p.2 := by
 rw [decFrom, if_pos e, k]
theorem decFrom_all (h : Nat) (b : By) : decFrom h 4 0 ⟨[], [], [], []⟩ b = decW h b := by
 unfold decW optW
 cases e0 : h.testBit 0
 ·rw [decFrom_no e0]
  cases e1 : h.testBit 1
  ·rw [decFrom_no e1]
   cases e2 : h.testBit 2
   ·rw [decFrom_no e2]
    cases e3 : h.testBit 3
    ·rw [decFrom_no e3]; simp [decFrom]
    ·cases k3 : partW b with
     | none => rw [decFrom_none e3 k3]; simp [k3]
     | some p3 => rw [decFrom_some e3 k3]; simp [k3, decFrom, Rq.put]
   ·cases k2 : partW b with
    | none => rw [decFrom_none e2 k2]; simp [k2]
    | some p2 =>
     rw [decFrom_some e2 k2]
     cases e3 : h.testBit 3
     ·rw [decFrom_no e3]; simp [k2, decFrom, Rq.put]
     ·cases k3 : partW p2.2 with
      | none => rw [decFrom_none e3 k3]; simp [k2, k3]
      | some p3 => rw [decFrom_some e3 k3]; simp [k2, k3, decFrom, Rq.put]
  ·cases k1 : partW b with
   | none => rw [decFrom_none e1 k1]; simp [k1]
   | some p1 =>
    rw [decFrom_some e1 k1]
    cases e2 : h.testBit 2
    ·rw [decFrom_no e2]
     cases e3 : h.testBit 3
     ·rw [decFrom_no e3]; simp [k1, decFrom, Rq.put]
     ·cases k3 : partW p1.2 with
      | none => rw [decFrom_none e3 k3]; simp [k1, k3]
      | some p3 => rw [decFrom_some e3 k3]; simp [k1, k3, decFrom, Rq.put]
    ·cases k2 : partW p1.2 with
     | none => rw [decFrom_none e2 k2]; simp [k1, k2]
     | some p2 =>
      rw [decFrom_some e2 k2]
      cases e3 : h.testBit 3
      ·rw [decFrom_no e3]; simp [k1, k2, decFrom, Rq.put]
      ·cases k3 : partW p2.2 with
       | none => rw [decFrom_none e3 k3]; simp [k1, k2, k3]
       | some p3 => rw [decFrom_some e3 k3]; simp [k1, k2, k3, decFrom, Rq.put]
 ·cases k0 : partW b with
  | none => rw [decFrom_none e0 k0]; simp [k0]
  | some p0 =>
   rw [decFrom_some e0 k0]
   cases e1 : h.testBit 1
   ·rw [decFrom_no e1]
    cases e2 : h.testBit 2
    ·rw [decFrom_no e2]
     cases e3 : h.testBit 3
     ·rw [decFrom_no e3]; simp [decFrom, Rq.put]
     ·cases k3 : partW p0.2 with
      | none => rw [decFrom_none e3 k3]; simp [k3]
      | some p3 => rw [decFrom_some e3 k3]; simp [k3, decFrom, Rq.put]
    ·cases k2 : partW p0.2 with
     | none => rw [decFrom_none e2 k2]; simp [k2]
     | some p2 =>
      rw [decFrom_some e2 k2]
      cases e3 : h.testBit 3
      ·rw [decFrom_no e3]; simp [k2, decFrom, Rq.put]
      ·cases k3 : partW p2.2 with
       | none => rw [decFrom_none e3 k3]; simp [k2, k3]
       | some p3 => rw [decFrom_some e3 k3]; simp [k2, k3, decFrom, Rq.put]
   ·cases k1 : partW p0.2 with
    | none => rw [decFrom_none e1 k1]; simp [k1]
    | some p1 =>
     rw [decFrom_some e1 k1]
     cases e2 : h.testBit 2
     ·rw [decFrom_no e2]
      cases e3 : h.testBit 3
      ·rw [decFrom_no e3]; simp [k1, decFrom, Rq.put]
      ·cases k3 : partW p1.2 with
       | none => rw [decFrom_none e3 k3]; simp [k1, k3]
       | some p3 => rw [decFrom_some e3 k3]; simp [k1, k3, decFrom, Rq.put]
     ·cases k2 : partW p1.2 with
      | none => rw [decFrom_none e2 k2]; simp [k1, k2]
      | some p2 =>
       rw [decFrom_some e2 k2]
       cases e3 : h.testBit 3
       ·rw [decFrom_no e3]; simp [k1, k2, decFrom, Rq.put]
       ·cases k3 : partW p2.2 with
        | none => rw [decFrom_none e3 k3]; simp [k1, k2, k3]
        | some p3 => rw [decFrom_some e3 k3]; simp [k1, k2, k3, decFrom, Rq.put]
theorem part_nil {b : By} (h : b.length = 0) : partW b = none := by
 rw [List.eq_nil_of_length_eq_zero h]; rfl
theorem part_short {b : By} {x : UInt8} (h : b[0]? = some x) (k : b.length < 1 + x.toNat) : partW b = none := by
 cases b with
 | nil => cases h
 | cons y t =>
  simp only [List.getElem?_cons_zero, Option.some.injEq] at h
  subst h
  simp only [List.length_cons] at k
  rw [partW_cons, if_pos (by omega)]
theorem part_long {b : By} {x : UInt8} (h : b[0]? = some x) (k : ¬ b.length < 1 + x.toNat) : partW b = some ((b.take (1 + x.toNat)).drop 1, b.drop (1 + x.toNat)) := by
 cases b with
 | nil => cases h
 | cons y t =>
  simp only [List.getElem?_cons_zero, Option.some.injEq] at h
  subst h
  simp only [List.length_cons] at k
  rw [partW_cons, if_neg (by omega), Nat.add_comm 1]
  simp
/-- What wire.Decode tells. -/
def wdE (b : By) : Int :=
  if 4000 < b.length then 1 else match b with
  | [] => 14
  | x :: t => if x.toNat < 1 ∨ 8 < x.toNat then 5 else match decW (hasN x.toNat) t with
    | none => 14
    | some p => if 0 < p.2.length then 4 else wireN x.toNat p.1.name.length p.1.key.length p.1.last.length p.1.value.length
def wdR (b : By) : Nat × Rq :=
  if wdE b = 0 then match b with
    | [] => (0, ⟨[], [], [], []⟩)
    | x :: t => match decW (hasN x.toNat) t with
      | none => (0, ⟨[], [], [], []⟩)
      | some p => (x.toNat, p.1)
  else (0, ⟨[], [], [], []⟩)
theorem hasN_val (k : Nat) (h : 1 ≤ k ∧ k ≤ 8) : hasN k = 0 ∨ hasN k = 3 ∨ hasN k = 7 ∨ hasN k = 11 := by
 rcases (by omega : k = 1 ∨ k = 2 ∨ k = 3 ∨ k = 4 ∨ k = 5 ∨ k = 6 ∨ k = 7 ∨ k = 8) with rfl | rfl | rfl | rfl | rfl | rfl | rfl | rfl <;> decide
theorem hasN_01 (k : Nat) (h : 1 ≤ k ∧ k ≤ 8) : (hasN k).testBit 1 = (hasN k).testBit 0 := by
 rcases hasN_val k h with e | e | e | e <;> rw [e] <;> rfl
theorem parts_ok {h n y l v : Nat} (e : partsN h n y l v = 0) : (h.testBit 0 = true → 1 ≤ n ∧ n ≤ 8) ∧ (h.testBit 0 = true → 1 ≤ y ∧ y ≤ 16) ∧ (h.testBit 2 = true → 1 ≤ l ∧ l ≤ 16) ∧ v ≤ 32 ∧
    (h.testBit 0 = false → n = 0) ∧ (h.testBit 1 = false → y = 0) ∧ (h.testBit 2 = false → l = 0) ∧ (h.testBit 3 = false → v = 0) := by
 unfold partsN at e
 split at e
 exact absurd e (by decide)
 split at e
 exact absurd e (by decide)
 split at e
 exact absurd e (by decide)
 split at e
 exact absurd e (by decide)
 split at e
 exact absurd e (by decide)
 rename_i q1 q2 q3 q4 q5
 refine ⟨fun hb => Decidable.byContradiction fun hn => q1 ⟨hb, hn⟩, fun hb => Decidable.byContradiction fun hn => q2 ⟨hb, hn⟩, fun hb => Decidable.byContradiction fun hn => q3 ⟨hb, hn⟩, by omega, fun hb => ?_, fun hb => ?_, fun hb => ?_, fun hb => ?_⟩
 exact Decidable.byContradiction fun hn => q5 (Or.inl ⟨by rw [hb]; decide, by omega⟩)
 exact Decidable.byContradiction fun hn => q5 (Or.inr (Or.inl ⟨by rw [hb]; decide, by omega⟩))
 exact Decidable.byContradiction fun hn => q5 (Or.inr (Or.inr (Or.inl ⟨by rw [hb]; decide, by omega⟩)))
 exact Decidable.byContradiction fun hn => q5 (Or.inr (Or.inr (Or.inr ⟨by rw [hb]; decide, by omega⟩)))
theorem fits_of {k : Nat} (hk : 1 ≤ k ∧ k ≤ 8) {r : Rq} (h : wireN k r.name.length r.key.length r.last.length r.value.length = 0) : FitsW (hasN k) r := by
 obtain ⟨a1, a2, a3, a4, a5, a6, a7, a8⟩ := parts_ok (h := hasN k) h
 have hb := hasN_01 k hk
 have e0 : ∀ {l : By}, l.length = 0 → l = [] := fun h => List.eq_nil_of_length_eq_zero h
 refine ⟨⟨?_, fun q => e0 (a5 q)⟩, ⟨?_, fun q => e0 (a6 q)⟩, ⟨?_, fun q => e0 (a7 q)⟩, ⟨by omega, fun q => e0 (a8 q)⟩⟩
 cases e : (hasN k).testBit 0
 have := a5 e; omega
 have := a1 e; omega
 cases e : (hasN k).testBit 0
 have := a6 (hb.trans e); omega
 have := a2 e; omega
 cases e : (hasN k).testBit 2
 have := a7 e; omega
 have := a3 e; omega
/-- A request that may be. -/
structure RqOk (k : Nat) (r : Rq) : Prop where
  kind : 1 ≤ k ∧ k ≤ 8
  fits : wireN k r.name.length r.key.length r.last.length r.value.length = 0
def encQ (k : Nat) (r : Rq) : By := b8 k :: encW (hasN k) r
theorem RqOk.lens {k : Nat} {r : Rq} (h : RqOk k r) : r.name.length ≤ 8 ∧ r.key.length ≤ 16 ∧ r.last.length ≤ 16 ∧ r.value.length ≤ 32 := by
 obtain ⟨a1, a2, a3, a4, a5, a6, a7, a8⟩ := parts_ok (h := hasN k) h.fits
 have hb := hasN_01 k h.kind
 refine ⟨?_, ?_, ?_, a4⟩
 cases e : (hasN k).testBit 0
 have := a5 e; omega
 have := a1 e; omega
 cases e : (hasN k).testBit 0
 have := a6 (hb.trans e); omega
 have := a2 e; omega
 cases e : (hasN k).testBit 2
 have := a7 e; omega
 have := a3 e; omega
theorem optE_len (c : Bool) (p : By) : (optE c p).length ≤ p.length + 1 := by
 cases c <;> simp [optE, encPart]
theorem encQ_len {k : Nat} {r : Rq} (h : RqOk k r) : (encQ k r).length ≤ 77 := by
 obtain ⟨a1, a2, a3, a4⟩ := h.lens
 have := optE_len ((hasN k).testBit 0) r.name
 have := optE_len ((hasN k).testBit 1) r.key
 have := optE_len ((hasN k).testBit 2) r.last
 have := optE_len ((hasN k).testBit 3) r.value
 simp only [encQ, encW, List.length_cons, List.length_append]
 omega
theorem wd_at {k : Nat} (hk : 1 ≤ k ∧ k ≤ 8) {t : By} (hl : t.length < 4000) : wdE (b8 k :: t) = match decW (hasN k) t with
    | none => 14
    | some p => if 0 < p.2.length then 4 else wireN k p.1.name.length p.1.key.length p.1.last.length p.1.value.length := by
  unfold wdE
  rw [if_neg (by simp only [List.length_cons]; omega)]
  have e : (b8 k).toNat = k := b8_toNat (by omega)
  simp only [e]
  rw [if_neg (by omega)]
theorem wd_back {k : Nat} {r : Rq} (h : RqOk k r) : wdE (encQ k r) = 0 ∧ wdR (encQ k r) = (k, r) := by
 have hl := encQ_len h
 have hd := decW_enc (fits_of h.kind h.fits) []
 rw [List.append_nil] at hd
 have he : wdE (encQ k r) = 0 := by
  unfold encQ at hl ⊢
  rw [wd_at h.kind (by simp only [List.length_cons] at hl; omega), hd]
  simp only [List.length_nil]
  rw [if_neg (by omega)]
  exact h.fits
 have e : (b8 k).toNat = k := b8_toNat (by have := h.kind; omega)
 refine ⟨he, ?_⟩
 unfold wdR
 rw [if_pos he]
 unfold encQ
 simp only [e, hd]
theorem wd_fixed {b : By} (h : wdE b = 0) : RqOk (wdR b).1 (wdR b).2 ∧ b = encQ (wdR b).1 (wdR b).2 := by
 cases b with
 | nil => exact absurd h (by decide)
 | cons x t =>
  have hr : wdR (x :: t) = match decW (hasN x.toNat) t with
    | none => (0, ⟨[], [], [], []⟩)
    | some p => (x.toNat, p.1) := by unfold wdR; rw [if_pos h]
  unfold wdE at h
  split at h
  exact absurd h (by decide)
  simp only at h
  split at h
  exact absurd h (by decide)
  rename_i hk
  cases hd : decW (hasN x.toNat) t with
  | none => rw [hd] at h; simp at h
  | some p =>
   rw [hd] at h hr
   simp only at h hr
   split at h
   exact absurd h (by decide)
   rename_i hz
   rw [hr]
   have hi := (decW_inv hd).1
   rw [List.eq_nil_of_length_eq_zero (by omega : p.2.length = 0), List.append_nil] at hi
   refine ⟨⟨by simp only; omega, h⟩, ?_⟩
   simp only [encQ, b8_back]
   rw [← hi]
theorem wdR_bad {b : By} (h : wdE b ≠ 0) : wdR b = (0, ⟨[], [], [], []⟩) := by unfold wdR; rw [if_neg h]
end Go.Proofs.YtilgpdpooildcaaGreatDoor
