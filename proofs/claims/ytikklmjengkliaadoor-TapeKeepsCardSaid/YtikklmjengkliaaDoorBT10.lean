/- Rules, plain laws and walks: DG4 DG5 TD P14 TP5 TP6 -/
import Derived.Test.YtikklmjengkliaaDoorBT9
import Derived.Test.YtikklmjengkliaaDoorBT3
import Derived.Test.YtikklmjengkliaaDoorBT1
namespace Go.Proofs.YtikklmjengkliaaDoor
open Go.RowKit
set_option maxRecDepth 100000
set_option linter.unusedVariables false
set_option linter.unusedSimpArgs false
theorem Sl.dropD {α : Type} {k : Nat} {R : Fz → List Value → α → Prop} {F : Fz} {a : Option Addr} {n c m : Nat} {l : List α} (hk : 0 < k) (h : Sl k R F (.slice a n c) l) (hm : m ≤ n) : Sl k R F (.slice (if c = m then a else a.map (·.add (m * k))) (n - m) (c - m)) (l.drop m) := by
  have hn := Sl.len h
  obtain ⟨el, h1, h2, h3⟩ := h
  obtain ⟨a0, c0, e1, q1, q2, q3, q4⟩ := h1
  injection e1 with e1 e2 e3
  subst e1; subst e3
  have hll := h2.len
  by_cases hmn : m = l.length
  · have e : l.drop m = [] := List.drop_of_length_le (by omega)
    have e0 : n - m = 0 := by omega
    rw [e, e0]
    refine ⟨[], ⟨_, c - m, rfl, by simp, by omega, fun e => ?_, .inl rfl⟩, trivial, by simp⟩
    cases a with
    | none => have := q3 rfl; exact ⟨rfl, by omega⟩
    | some ad => split at e <;> cases e
  · have hpos : el.flatten ≠ [] := by
      intro e
      have := congrArg List.length e
      rw [flatten_len h3, hll] at this
      have := Nat.mul_pos (show 0 < l.length by omega) hk
      simp at *
      omega
    obtain ⟨b, o, e, hc⟩ := q4.resolve_left hpos
    subst e
    rw [if_neg (by omega)]
    have hs : Sl k R F (.slice (some ⟨b, o, none⟩) n c) l := ⟨el, ⟨_, _, by rw [hn], q1, q2, q3, .inr ⟨b, o, rfl, hc⟩⟩, h2, h3⟩
    have := Sl.dropN (m := m) hs hm rfl rfl
    show Sl k R F (.slice (some (Addr.add ⟨b, o, none⟩ (m * k))) _ _) _
    rw [Addr.add_mid]
    exact this
theorem Bs.restD {F : Fz} {a : Option Addr} {m c n : Nat} {l : By} (h : Bs F (.slice a m c) l) (hn : n ≤ m) : Bs F (.slice (if c = n then a else a.map (·.add (n * 1))) (m - n) (c - n)) (l.drop n) := bs_of_sl (Sl.dropD (by decide) h.sl hn)
theorem made_bytes (n : Nat) : (madeCells (Value.int .u8 0).cells (n * 1)).toList = (List.replicate n (0 : UInt8)).map bv := by
  rw [show (Value.int .u8 0).cells = #[.int .u8 0] from rfl, toList_madeCells_one]; simp [bv]
theorem stirs_zero (S : List (BitVec 64)) : stirsL S 0 = S := rfl
theorem mix_zero (S : List (BitVec 64)) (p : By) : mixL S p 0 = S := rfl
theorem absorb_at {Z X R : List (BitVec 64)} {p : By} (hX : X = mixL Z p 136) (h : 136 ≤ p.length) (e : absorbL Z p (p.length / 136) = R) : absorbL (stirsL X 24) (p.drop 136) ((p.drop 136).length / 136) = R := by
  rw [hX, ← absorb_step h]; exact e
theorem absorb_end {Z R : List (BitVec 64)} {p : By} (h : p.length / 136 = 0) (e : absorbL Z p (p.length / 136) = R) : Z = R := by
  rw [h] at e; rw [← e]; cases p <;> rfl
theorem outL_len (Z : List (BitVec 64)) : (outL Z).length = 32 := by simp [outL]
set_option maxHeartbeats 8000000 in
theorem sum_own (F : Fz) (w : World) (v : Value) (b : By) (hs : Sat w F) (hT : Tabs w) (hb : Bs F v b) (hn : b.length ≤ 100000) :
    Calls Tryd.prog 72 #[v] w (GivesO w F 1 ByC 5 (sumL b)) := by
 obtain ⟨x, y, rfl, hc1', hc2'⟩ := hb.shape
 unfold maxLen at hc2'
 obtain ⟨i5, hi5, hz5, hs5, hb5⟩ := info_parts infoU8
 have S := St.start hs
 go_enter Tryd.func72, Tryd.ntmps72
 refine wp_seq_k (fun K1 hK1 => region_wl ?_)
 refine do_ rfl (.slice none 0 0) (ex_assign _) ?_
 simp only [pS, pN, pA, pC, pZ]
 refine wl_nil (hK1 _ _ ?_)
 refine wp_seq_k (fun K2 hK2 => region_wl ?_)
 refine do_ rfl (.slice x b.length y) (ex_move _) ?_
 simp only [pS, pN, pA, pC, pZ]
 have S3 := St.addNil S 1 ByC ByC.mono 5 w.heap.size
 refine stAppendS (r := 0) (u := (.slice x b.length y)) S3 rfl i5 (.int .u8 0) 1 Tryd.underlying23 hi5 hz5 hs5 hb5 rfl (by decide) rfl rfl rfl (Sl.toW (Bs.sl hb) (S3).sat) ByC.one (Nat.le_refl _) S3.gr.below.size (by unfold maxLen; simp only [List.length_nil]; omega) (by simp only [List.length_nil]; omega) ?_
 intro v4 w5 S6 hn7
 simp only [pS, pN, pA, pC, pZ]
 have S6 : St w F w5 F [] [ownP 1 ByC ByC.mono 5 w.heap.size v4 ([] ++ b)] := S6
 refine stNew S6 (v := fun n => .slice (some ⟨n, 0, none⟩) 1 1) rfl (ex_lit (ps := #[(0, (.int .u8 6))]) (cells := #[(.int .u8 6)]) (E := 5) (bmap1 rfl) (fun w => by kernel_rfl)) (fun n8 w9 S10 => ?_)
 simp only [pS, pN, pA, pC, pZ]
 have S10 : St w F w9 F [⟨n8, [(.int .u8 6)], 5⟩] [ownP 1 ByC ByC.mono 5 w.heap.size v4 ([] ++ b)] := S10
 rw [List.nil_append] at S10
 refine stPush (i := 0) (r := 0) (p := (6 : UInt8)) (cs := [(.int .u8 6)]) S10 rfl i5 (.int .u8 0) 1 Tryd.underlying23 hi5 hz5 hs5 hb5 rfl (by decide) rfl rfl rfl rfl rfl (bv_one 6) (rfl) (Nat.le_refl _) S10.gr.below.size (by unfold maxLen; omega) (by omega) ?_
 intro v11 w12 S13 hn14
 simp only [pS, pN, pA, pC, pZ]
 have S13 := St.drop S13 (L' := []) (.cons _ (List.Sublist.refl _))
 have S13 : St w F w12 F [] [ownP 1 ByC ByC.mono 5 w.heap.size v11 (b ++ [(6 : UInt8)])] := S13
 refine do_ rfl v11 (ex_assign _) ?_
 simp only [pS, pN, pA, pC, pZ]
 refine wl_nil (hK2 _ _ ?_)
 refine wp_seq_k (fun K15 hK15 => ?_)
 refine wp_block ?_
 rw [padK_zero] at S13
 refine wp_loop_g (fun mm aa w17 => ∃ (k : Nat) (v : Value) (u16 : Nat → Value), mm = padN b - k ∧ u16 = slots aa ∧ aa = ⟨#[(.slice x b.length y), undef, (.slice none 0 0), v, undef, undef, undef, undef, undef, (.slice x b.length y), v4, (.slice (some ⟨n8, 0, none⟩) 1 1), v11, (u16 13), (u16 14), (u16 15), (u16 16), (u16 17), (u16 18), (u16 19), undef, undef, undef, undef, undef, undef, undef, undef, undef, undef, undef, undef, undef, undef, undef, undef, undef, undef, undef, undef, undef, undef, undef, undef, undef, undef, undef, undef, undef, undef, undef, undef, undef, undef, undef, undef, undef, undef, undef, undef, undef, undef, undef, undef, undef, undef, undef, undef, undef, undef, undef, undef, undef, undef, undef, undef, undef, undef], []⟩ ∧ St w F w17 F [] [ownP 1 ByC ByC.mono 5 w.heap.size v (padK b k)] ∧ (k ≤ padN b)) _ ⟨0, v11, _, rfl, rfl, rfl, S13, (Nat.zero_le _)⟩ ?_
 rintro m18 a19 w20 ⟨k, v, u16, rfl, -, rfl, S21, hk⟩ K23 hK23
 refine wp_seq_k (fun K24 hK24 => ?_)
 refine wp_seq_k (fun K25 hK25 => ?_)
 have hpl := padK_len b k
 have hpn : padN b < 136 := by unfold padN; omega
 obtain ⟨a26, cap27, rfl, h28, h29⟩ := (S21.own (i := 0) rfl).shape
 unfold maxLen at h29
 refine region_wl ?_
 refine do_ rfl (.slice a26 (padK b k).length cap27) (ex_move _) ?_
 simp only [pS, pN, pA, pC, pZ]
 refine do_ rfl (.int .i64 (((padK b k).length : Nat) : Int)) (ex_len Tryd.underlying23 rfl) ?_
 simp only [pS, pN, pA, pC, pZ]
 refine do_ rfl (.int .i64 ((((padK b k).length % 136) : Nat) : Int)) (ex_remA (m := ((padK b k).length)) (n := 136) rfl rfl (by decide) (by omega)) ?_
 simp only [pS, pN, pA, pC, pZ]
 by_cases hc16 : ((padK b k).length % 136) = 0
 ·refine do_ rfl (.bool false) (ex_neq (m := ((((padK b k).length % 136) : Nat) : Int)) (n := (0 : Int)) (b := false) rfl rfl (bne_eq_false_iff_eq.2 (by omega))) ?_
  simp only [pS, pN, pA, pC, pZ]
  refine wl_nil (hK25 _ _ ?_)
  refine wp_cond_false rfl ?_
  refine wp_exit ?_
  refine hK15 _ _ ?_
  refine wp_seq_k (fun K30 hK30 => ?_)
  have hkk : k = padN b := by unfold padN at *; omega
  subst hkk
  obtain ⟨xb, hxb⟩ : ∃ x, (padK b (padN b))[(padK b (padN b)).length - 1]? = some x := ⟨_, List.getElem?_eq_getElem (by omega)⟩
  obtain ⟨g31, ha32, c33⟩ := by_at (St.own S21 (i := 0) rfl) hxb
  subst ha32
  refine region_wl ?_
  refine do_ rfl (.slice (some ⟨g31, 0, none⟩) (padK b (padN b)).length cap27) (ex_move _) ?_
  simp only [pS, pN, pA, pC, pZ]
  refine do_ rfl (.slice (some ⟨g31, 0, none⟩) (padK b (padN b)).length cap27) (ex_move _) ?_
  simp only [pS, pN, pA, pC, pZ]
  refine do_ rfl (.int .i64 (((padK b (padN b)).length : Nat) : Int)) (ex_len Tryd.underlying23 rfl) ?_
  simp only [pS, pN, pA, pC, pZ]
  refine do_ rfl (.int .i64 ((((padK b (padN b)).length - 1) : Nat) : Int)) (ex_sub (m := (((padK b (padN b)).length : Nat) : Int)) (n := (1 : Int)) (r := ((((padK b (padN b)).length - 1) : Nat) : Int)) rfl rfl (by omega) (by omega) (by omega)) ?_
  simp only [pS, pN, pA, pC, pZ]
  refine do_ rfl (.pointer (some ⟨g31, 0 + ((padK b (padN b)).length - 1) * 1, none⟩)) (ex_at (i := ((padK b (padN b)).length - 1)) (sz := 1) Tryd.underlying23 (sizeof_5 _) rfl rfl rfl (by omega) rfl) ?_
  simp only [pS, pN, pA, pC, pZ]
  refine do_ rfl (bv xb) (ex_load rfl (load1 (nagg_5 _) c33)) ?_
  simp only [pS, pN, pA, pC, pZ]
  refine do_ rfl (bv (xb ||| 128)) (ex_orB rfl rfl) ?_
  simp only [pS, pN, pA, pC, pZ]
  refine do_ rfl (.pointer (some ⟨g31, 0 + ((padK b (padN b)).length - 1) * 1, none⟩)) (ex_at (i := ((padK b (padN b)).length - 1)) (sz := 1) Tryd.underlying23 (sizeof_5 _) rfl rfl rfl (by omega) rfl) ?_
  simp only [pS, pN, pA, pC, pZ]
  refine stSetRow (r := 0) (i := ((padK b (padN b)).length - 1)) (p := (xb ||| 128)) (u := (bv (xb ||| 128))) S21 rfl rfl (by omega) rfl rfl (by omega) (size_5) (allc1 rfl) rfl rfl (Nat.le_refl _) (fun w34 S35 => ?_)
  simp only [pS, pN, pA, pC, pZ]
  have S35 : St w F w34 F [] [ownP 1 ByC ByC.mono 5 w.heap.size (.slice (some ⟨g31, 0, none⟩) (padK b (padN b)).length cap27) ((padK b (padN b)).set ((padK b (padN b)).length - 1) (xb ||| 128))] := S35
  rw [padL_of hxb] at S35
  refine wl_nil (hK30 _ _ ?_)
  refine wp_seq_k (fun K36 hK36 => ?_)
  obtain ⟨F37, S38, le39, hv40⟩ := St.freeze S35 (i := 0) rfl (Nat.le_refl _)
  have S38 : St w F w34 F37 [] [] := S38
  have hv40 : Bys _ (.slice (some ⟨g31, 0, none⟩) (padK b (padN b)).length cap27) (padL b) := hv40
  have r41 := bs_of_sl hv40
  refine region_wl ?_
  refine stNew S38 (v := fun n => .pointer (some ⟨n, 0, none⟩)) rfl (ex_alloc (zero_147 _)) (fun n42 w43 S44 => ?_)
  simp only [pS, pN, pA, pC, pZ]
  have S44 : St w F w43 F37 [⟨n42, ((List.replicate 25 (0 : BitVec 64)).map laneV), 147⟩] [] := S44
  refine wl_nil (hK36 _ _ ?_)
  refine wp_seq_k (fun K45 hK45 => ?_)
  refine wp_block ?_
  refine wp_loop_g (fun mm aa w47 => ∃ (Z : List (BitVec 64)) (ra : Option Addr) (rn : Nat) (rc : Nat) (rest : By) (u46 : Nat → Value), mm = rest.length ∧ u46 = slots aa ∧ aa = ⟨#[(.slice x b.length y), undef, (.slice none 0 0), (.slice ra rn rc), (.pointer (some ⟨n42, 0, none⟩)), (u46 5), (u46 6), undef, undef, (.slice x b.length y), v4, (.slice (some ⟨n8, 0, none⟩) 1 1), v11, (.slice (some ⟨g31, 0, none⟩) (padK b (padN b)).length cap27), (.int .i64 (((padK b (padN b)).length : Nat) : Int)), (.int .i64 ((((padK b (padN b)).length % 136) : Nat) : Int)), (.bool false), (u16 17), (u16 18), (u16 19), (.slice (some ⟨g31, 0, none⟩) (padK b (padN b)).length cap27), (.slice (some ⟨g31, 0, none⟩) (padK b (padN b)).length cap27), (.int .i64 (((padK b (padN b)).length : Nat) : Int)), (.int .i64 ((((padK b (padN b)).length - 1) : Nat) : Int)), (.pointer (some ⟨g31, 0 + ((padK b (padN b)).length - 1) * 1, none⟩)), (bv xb), (bv (xb ||| 128)), (.pointer (some ⟨g31, 0 + ((padK b (padN b)).length - 1) * 1, none⟩)), (u46 28), (u46 29), (u46 30), (u46 31), (u46 32), (u46 33), (u46 34), (u46 35), (u46 36), (u46 37), (u46 38), (u46 39), (u46 40), (u46 41), (u46 42), (u46 43), (u46 44), (u46 45), (u46 46), (u46 47), (u46 48), (u46 49), (u46 50), (u46 51), (u46 52), (u46 53), (u46 54), (u46 55), (u46 56), (u46 57), undef, undef, undef, undef, undef, undef, undef, undef, undef, undef, undef, undef, undef, undef, undef, undef, undef, undef, undef, undef], []⟩ ∧ St w F w47 F37 [⟨n42, (Z.map laneV), 147⟩] [] ∧ (Z.length = 25) ∧ (Bs F37 (.slice ra rn rc) rest) ∧ (rest.length % 136 = 0) ∧ (rest.length ≤ 200000) ∧ (absorbL Z rest (rest.length / 136) = absorbL (List.replicate 25 0) (padL b) ((padL b).length / 136))) _ ⟨(List.replicate 25 0), (some ⟨g31, 0, none⟩), (padK b (padN b)).length, cap27, (padL b), _, rfl, rfl, rfl, S44, (by simp), r41, (by rw [padL_len]; unfold padN; omega), (by rw [padL_len]; unfold padN; omega), rfl⟩ ?_
  rintro m48 a49 w50 ⟨Z, ra, rn, rc, rest, u46, rfl, -, rfl, S51, hZ, hrest, hrm, hrl, hab⟩ K53 hK53
  refine wp_seq_k (fun K54 hK54 => ?_)
  refine wp_seq_k (fun K55 hK55 => ?_)
  have hrn := hrest.len
  refine region_wl ?_
  refine do_ rfl (.slice ra rn rc) (ex_move _) ?_
  simp only [pS, pN, pA, pC, pZ]
  refine do_ rfl (.int .i64 ((rn : Nat) : Int)) (ex_len Tryd.underlying23 rfl) ?_
  simp only [pS, pN, pA, pC, pZ]
  by_cases hc30 : 0 < rn
  ·refine do_ rfl (.bool true) (ex_gtr (m := ((rn : Nat) : Int)) (n := (0 : Int)) (b := true) rfl rfl (decide_eq_true (by omega))) ?_
   simp only [pS, pN, pA, pC, pZ]
   refine wl_nil (hK55 _ _ ?_)
   refine wp_cond_true rfl ?_
   refine wp_skip ?_
   refine hK54 _ _ ?_
   refine wp_seq_k (fun K56 hK56 => ?_)
   refine wp_block ?_
   refine wp_seq_k (fun K57 hK57 => ?_)
   refine wp_seq_k (fun K58 hK58 => region_wl ?_)
   refine do_ rfl (.int .i64 0) (ex_move _) ?_
   simp only [pS, pN, pA, pC, pZ]
   refine wl_nil (hK58 _ _ ?_)
   refine wp_block ?_
   have S51 : St w F w50 F37 [⟨n42, ((mixL Z rest 0).map laneV), 147⟩] [] := by rw [mix_zero]; exact S51
   refine wp_loop_g (fun mm aa w60 => ∃ (i : Nat) (u59 : Nat → Value), mm = 136 - i ∧ u59 = slots aa ∧ aa = ⟨#[(.slice x b.length y), undef, (.slice none 0 0), (.slice ra rn rc), (.pointer (some ⟨n42, 0, none⟩)), (u59 5), (u46 6), undef, undef, (.slice x b.length y), v4, (.slice (some ⟨n8, 0, none⟩) 1 1), v11, (.slice (some ⟨g31, 0, none⟩) (padK b (padN b)).length cap27), (.int .i64 (((padK b (padN b)).length : Nat) : Int)), (.int .i64 ((((padK b (padN b)).length % 136) : Nat) : Int)), (.bool false), (u16 17), (u16 18), (u16 19), (.slice (some ⟨g31, 0, none⟩) (padK b (padN b)).length cap27), (.slice (some ⟨g31, 0, none⟩) (padK b (padN b)).length cap27), (.int .i64 (((padK b (padN b)).length : Nat) : Int)), (.int .i64 ((((padK b (padN b)).length - 1) : Nat) : Int)), (.pointer (some ⟨g31, 0 + ((padK b (padN b)).length - 1) * 1, none⟩)), (bv xb), (bv (xb ||| 128)), (.pointer (some ⟨g31, 0 + ((padK b (padN b)).length - 1) * 1, none⟩)), (.slice ra rn rc), (.int .i64 ((rn : Nat) : Int)), (.bool true), (u46 31), (u46 32), (.int .i64 ((i : Nat) : Int)), (u59 34), (u59 35), (u59 36), (u59 37), (u59 38), (u59 39), (u59 40), (u59 41), (u59 42), (u59 43), (u59 44), (u59 45), (u59 46), (u59 47), (u59 48), (u59 49), (u59 50), (u59 51), (u46 52), (u46 53), (u46 54), (u46 55), (u46 56), (u46 57), undef, undef, undef, undef, undef, undef, undef, undef, undef, undef, undef, undef, undef, undef, undef, undef, undef, undef, undef, undef], []⟩ ∧ St w F w60 F37 [⟨n42, ((mixL Z rest i).map laneV), 147⟩] [] ∧ (i ≤ 136)) _ ⟨0, _, rfl, rfl, rfl, S51, (by omega)⟩ ?_
   rintro m61 a62 w63 ⟨i, u59, rfl, -, rfl, S64, hi⟩ K66 hK66
   refine wp_seq_k (fun K67 hK67 => region_wl ?_)
   by_cases hc34 : i < 136
   ·refine do_ rfl (.bool true) (ex_lss (m := ((i : Nat) : Int)) (n := (136 : Int)) (b := true) rfl rfl (decide_eq_true (by omega))) ?_
    simp only [pS, pN, pA, pC, pZ]
    refine wl_nil (hK67 _ _ ?_)
    refine wp_seq_k (fun K68 hK68 => ?_)
    refine wp_cond_true rfl ?_
    refine wp_skip ?_
    refine hK68 _ _ ?_
    refine wp_seq_k (fun K69 hK69 => ?_)
    refine wp_block ?_
    refine wp_seq_k (fun K70 hK70 => region_wl ?_)
    refine do_ rfl (.int .i64 ((i : Nat) : Int)) (ex_move _) ?_
    simp only [pS, pN, pA, pC, pZ]
    refine do_ rfl (.int .i64 ((i : Nat) : Int)) (ex_assign _) ?_
    simp only [pS, pN, pA, pC, pZ]
    refine wl_nil (hK70 _ _ ?_)
    obtain ⟨xi, hxi⟩ : ∃ x, rest[i]? = some x := ⟨_, List.getElem?_eq_getElem (by omega)⟩
    obtain ⟨b71, o72, ha73, c74⟩ := Bs.get hrest hxi
    refine region_gw F37 13 [] (by kernel_rfl) (by kernel_rfl) ?_
    simp only [List.take_succ_cons, List.take_zero]
    refine gw_pure rfl rfl (.int .i64 ((i : Nat) : Int)) (fun w75 hCw75 => pureAt_of (ex_move _)) ?_
    simp only [pS, pN, pA, pC, pZ]
    refine gw_pure rfl rfl (.int .i64 (((i / 8) : Nat) : Int)) (fun w75 hCw75 => pureAt_of (ex_quoA (m := i) (n := 8) rfl rfl (by decide) (by omega))) ?_
    simp only [pS, pN, pA, pC, pZ]
    refine gw_pure rfl rfl (.pointer (some ⟨n42, (i / 8), none⟩)) (fun w75 hCw75 => pureAt_of (ex_atA (i := (i / 8)) Tryd.underlying147 (sizeof_145 _) rfl rfl (by omega))) ?_
    simp only [pS, pN, pA, pC, pZ]
    refine gw_pure rfl rfl (laneV (at0 (mixL Z rest i) (i / 8))) (fun w75 hCw75 => pureAt_of (ex_load rfl (load1 (nagg_145 _) (St.cell (St.tells S64 hCw75) (i := 0) rfl (lanes_at (Nat.lt_of_lt_of_eq (show (i / 8) < 25 by omega) ((mix_len _ _ _).trans hZ).symm)))))) ?_
    simp only [pS, pN, pA, pC, pZ]
    refine gw_pure rfl rfl (.slice ra rn rc) (fun w75 hCw75 => pureAt_of (ex_move _)) ?_
    simp only [pS, pN, pA, pC, pZ]
    refine gw_pure rfl rfl (.int .i64 ((i : Nat) : Int)) (fun w75 hCw75 => pureAt_of (ex_move _)) ?_
    simp only [pS, pN, pA, pC, pZ]
    refine gw_pure rfl rfl (.pointer (some ⟨b71, o72 + i * 1, none⟩)) (fun w75 hCw75 => pureAt_of (ex_at (i := i) (sz := 1) Tryd.underlying23 (sizeof_5 _) rfl ha73 rfl (by omega) rfl)) ?_
    simp only [pS, pN, pA, pC, pZ]
    refine gw_pure rfl rfl (bv xi) (fun w75 hCw75 => pureAt_of (ex_load rfl (load1 (nagg_5 _) (St.fz (St.tells S64 hCw75) c74)))) ?_
    simp only [pS, pN, pA, pC, pZ]
    refine gw_pure rfl rfl (laneV (BitVec.ofNat 64 xi.toNat)) (fun w75 hCw75 => pureAt_of (ex_convert (v := (bv xi)) rfl (conv_u64 xi _))) ?_
    simp only [pS, pN, pA, pC, pZ]
    refine gw_pure rfl rfl (.int .i64 ((i : Nat) : Int)) (fun w75 hCw75 => pureAt_of (ex_move _)) ?_
    simp only [pS, pN, pA, pC, pZ]
    refine gw_pure rfl rfl (.int .i64 (((i % 8) : Nat) : Int)) (fun w75 hCw75 => pureAt_of (ex_remA (m := i) (n := 8) rfl rfl (by decide) (by omega))) ?_
    simp only [pS, pN, pA, pC, pZ]
    refine gw_pure rfl rfl (.int .i64 ((((i % 8) * 8) : Nat) : Int)) (fun w75 hCw75 => pureAt_of (ex_mul (m := (((i % 8) : Nat) : Int)) (n := (8 : Int)) (r := ((((i % 8) * 8) : Nat) : Int)) rfl rfl (by omega) (by omega) (by omega))) ?_
    simp only [pS, pN, pA, pC, pZ]
    refine gw_pure rfl rfl (laneV ((BitVec.ofNat 64 xi.toNat) <<< ((i % 8) * 8))) (fun w75 hCw75 => pureAt_of (ex_shlL (n := ((i % 8) * 8)) rfl rfl (by omega))) ?_
    simp only [pS, pN, pA, pC, pZ]
    refine gw_nil ?_
    intro w76 hC78 hF79
    clear hF79
    have S77 := St.tells S64 hC78
    simp only [List.drop_succ_cons, List.drop_zero]
    refine do_ rfl (laneV ((at0 (mixL Z rest i) (i / 8)) ^^^ ((BitVec.ofNat 64 xi.toNat) <<< ((i % 8) * 8)))) (ex_xorL rfl rfl) ?_
    simp only [pS, pN, pA, pC, pZ]
    refine do_ rfl (.pointer (some ⟨n42, (i / 8), none⟩)) (ex_atA (i := (i / 8)) Tryd.underlying147 (sizeof_145 _) rfl rfl (by omega)) ?_
    simp only [pS, pN, pA, pC, pZ]
    refine stStore (i := 0) (v := laneV ((at0 (mixL Z rest i) (i / 8)) ^^^ ((BitVec.ofNat 64 xi.toNat) <<< ((i % 8) * 8)))) S77 rfl rfl rfl rfl (size_145) (allc1 rfl) (by rw [List.length_map, ((mix_len _ _ _).trans hZ)]; show (i / 8) + 1 ≤ 25; omega) (fun w80 S81 => ?_)
    simp only [pS, pN, pA, pC, pZ]
    have S81 : St w F w80 F37 [⟨n42, (splice ((mixL Z rest i).map laneV) (i / 8) [laneV ((at0 (mixL Z rest i) (i / 8)) ^^^ ((BitVec.ofNat 64 xi.toNat) <<< ((i % 8) * 8)))]), 147⟩] [] := S81
    rw [lanes_set (Nat.lt_of_lt_of_eq (show (i / 8) < 25 by omega) ((mix_len _ _ _).trans hZ).symm)] at S81
    rw [mix_step Z hxi] at S81
    refine wl_nil (hK69 _ _ ?_)
    refine region_wl ?_
    refine do_ rfl (.int .i64 (((i + 1) : Nat) : Int)) (ex_add (m := ((i : Nat) : Int)) (n := (1 : Int)) (r := (((i + 1) : Nat) : Int)) rfl rfl (by omega) (by omega) (by omega)) ?_
    simp only [pS, pN, pA, pC, pZ]
    refine do_ rfl (.int .i64 (((i + 1) : Nat) : Int)) (ex_move _) ?_
    simp only [pS, pN, pA, pC, pZ]
    refine wl_nil ?_
    exact hK66 _ _ _ (by omega) ⟨(i + 1), _, rfl, rfl, rfl, S81, (by omega)⟩
   ·refine do_ rfl (.bool false) (ex_lss (m := ((i : Nat) : Int)) (n := (136 : Int)) (b := false) rfl rfl (decide_eq_false (by omega))) ?_
    simp only [pS, pN, pA, pC, pZ]
    refine wl_nil (hK67 _ _ ?_)
    refine wp_seq_k (fun K82 hK82 => ?_)
    refine wp_cond_false rfl ?_
    refine wp_exit ?_
    refine hK57 _ _ ?_
    refine wp_seq_k (fun K83 hK83 => ?_)
    obtain rfl : i = 136 := by omega
    obtain ⟨Xm, hXm⟩ : ∃ X, X = mixL Z rest 136 := ⟨_, rfl⟩
    have hXl : Xm.length = 25 := by rw [hXm]; exact (mix_len _ _ _).trans hZ
    rw [← hXm] at S64
    refine region_wl ?_
    refine do_ rfl (.int .i64 0) (ex_move _) ?_
    simp only [pS, pN, pA, pC, pZ]
    refine wl_nil (hK83 _ _ ?_)
    refine wp_block ?_
    have S64 : St w F w63 F37 [⟨n42, ((stirsL Xm 0).map laneV), 147⟩] [] := by rw [stirs_zero]; exact S64
    refine wp_loop_g (fun mm aa w85 => ∃ (q : Nat) (u84 : Nat → Value), mm = 24 - q ∧ u84 = slots aa ∧ aa = ⟨#[(.slice x b.length y), undef, (.slice none 0 0), (.slice ra rn rc), (.pointer (some ⟨n42, 0, none⟩)), (u59 5), (u84 6), undef, undef, (.slice x b.length y), v4, (.slice (some ⟨n8, 0, none⟩) 1 1), v11, (.slice (some ⟨g31, 0, none⟩) (padK b (padN b)).length cap27), (.int .i64 (((padK b (padN b)).length : Nat) : Int)), (.int .i64 ((((padK b (padN b)).length % 136) : Nat) : Int)), (.bool false), (u16 17), (u16 18), (u16 19), (.slice (some ⟨g31, 0, none⟩) (padK b (padN b)).length cap27), (.slice (some ⟨g31, 0, none⟩) (padK b (padN b)).length cap27), (.int .i64 (((padK b (padN b)).length : Nat) : Int)), (.int .i64 ((((padK b (padN b)).length - 1) : Nat) : Int)), (.pointer (some ⟨g31, 0 + ((padK b (padN b)).length - 1) * 1, none⟩)), (bv xb), (bv (xb ||| 128)), (.pointer (some ⟨g31, 0 + ((padK b (padN b)).length - 1) * 1, none⟩)), (.slice ra rn rc), (.int .i64 ((rn : Nat) : Int)), (.bool true), (u46 31), (u46 32), (.int .i64 136), (.bool false), (u59 35), (u59 36), (u59 37), (u59 38), (u59 39), (u59 40), (u59 41), (u59 42), (u59 43), (u59 44), (u59 45), (u59 46), (u59 47), (u59 48), (u59 49), (u59 50), (u59 51), (.int .i64 ((q : Nat) : Int)), (u84 53), (u84 54), (u84 55), (u84 56), (u84 57), undef, undef, undef, undef, undef, undef, undef, undef, undef, undef, undef, undef, undef, undef, undef, undef, undef, undef, undef, undef], []⟩ ∧ St w F w85 F37 [⟨n42, ((stirsL Xm q).map laneV), 147⟩] [] ∧ (q ≤ 24)) _ ⟨0, _, rfl, rfl, rfl, S64, (by omega)⟩ ?_
    rintro m86 a87 w88 ⟨q, u84, rfl, -, rfl, S89, hq⟩ K91 hK91
    refine wp_seq_k (fun K92 hK92 => region_wl ?_)
    by_cases hc53 : q < 24
    ·refine do_ rfl (.bool true) (ex_lss (m := ((q : Nat) : Int)) (n := (24 : Int)) (b := true) rfl rfl (decide_eq_true (by omega))) ?_
     simp only [pS, pN, pA, pC, pZ]
     refine wl_nil (hK92 _ _ ?_)
     refine wp_seq_k (fun K93 hK93 => ?_)
     refine wp_cond_true rfl ?_
     refine wp_skip ?_
     refine hK93 _ _ ?_
     refine wp_seq_k (fun K94 hK94 => ?_)
     refine wp_block ?_
     refine wp_seq_k (fun K95 hK95 => region_wl ?_)
     refine do_ rfl (.int .i64 ((q : Nat) : Int)) (ex_move _) ?_
     simp only [pS, pN, pA, pC, pZ]
     refine do_ rfl (.int .i64 ((q : Nat) : Int)) (ex_assign _) ?_
     simp only [pS, pN, pA, pC, pZ]
     refine wl_nil (hK95 _ _ ?_)
     refine region_wl ?_
     refine do_ rfl (.int .i64 ((q : Nat) : Int)) (ex_move _) ?_
     simp only [pS, pN, pA, pC, pZ]
     refine stStir rfl (ex_fn (vs := #[(.pointer (some ⟨n42, 0, none⟩)), (.int .i64 ((q : Nat) : Int))]) (map2 rfl rfl) rfl (ent_95 _ _)) (stir_spec S89 (stirs_len hXl _) hT (by omega)) (fun w96 S97 => ?_)
     simp only [pS, pN, pA, pC, pZ]
     have S97 : St w F w96 F37 [⟨n42, ((stirL (stirsL Xm q) q).map laneV), 147⟩] [] := S97
     rw [stirs_step] at S97
     refine wl_nil (hK94 _ _ ?_)
     refine region_wl ?_
     refine do_ rfl (.int .i64 (((q + 1) : Nat) : Int)) (ex_add (m := ((q : Nat) : Int)) (n := (1 : Int)) (r := (((q + 1) : Nat) : Int)) rfl rfl (by omega) (by omega) (by omega)) ?_
     simp only [pS, pN, pA, pC, pZ]
     refine do_ rfl (.int .i64 (((q + 1) : Nat) : Int)) (ex_move _) ?_
     simp only [pS, pN, pA, pC, pZ]
     refine wl_nil ?_
     exact hK91 _ _ _ (by omega) ⟨(q + 1), _, rfl, rfl, rfl, S97, (by omega)⟩
    ·refine do_ rfl (.bool false) (ex_lss (m := ((q : Nat) : Int)) (n := (24 : Int)) (b := false) rfl rfl (decide_eq_false (by omega))) ?_
     simp only [pS, pN, pA, pC, pZ]
     refine wl_nil (hK92 _ _ ?_)
     refine wp_seq_k (fun K98 hK98 => ?_)
     refine wp_cond_false rfl ?_
     refine wp_exit ?_
     refine hK56 _ _ ?_
     obtain rfl : q = 24 := by omega
     refine region_wl ?_
     refine do_ rfl (.slice ra rn rc) (ex_move _) ?_
     simp only [pS, pN, pA, pC, pZ]
     have hcap : rest.length ≤ rc := by obtain ⟨_, _, e, q, _⟩ := hrest.shape; injection e with _ _ e; rw [e]; exact q
     have r99 : Bs _ (.slice (if rc = 136 then ra else ra.map (·.add (136 * 1))) (rn - 136) (rc - 136)) (rest.drop 136) := Bs.restD hrest (by omega)
     refine do_ rfl (.slice (if rc = 136 then ra else ra.map (·.add (136 * 1))) (rn - 136) (rc - 136)) (ex_slice (l := 136) (h := rn) (sz := 1) Tryd.underlying23 rfl (sizeof_5 _) (.inr ⟨_, rfl, rfl⟩) (.inl ⟨rfl, rfl⟩) (by omega) (by omega) (rfl)) ?_
     simp only [pS, pN, pA, pC, pZ]
     refine do_ rfl (.slice (if rc = 136 then ra else ra.map (·.add (136 * 1))) (rn - 136) (rc - 136)) (ex_assign _) ?_
     simp only [pS, pN, pA, pC, pZ]
     refine wl_nil ?_
     have hdl : (rest.drop 136).length = rest.length - 136 := by simp
     exact hK53 _ _ _ (by omega) ⟨(stirsL Xm 24), (if rc = 136 then ra else ra.map (·.add (136 * 1))), (rn - 136), (rc - 136), (rest.drop 136), _, rfl, rfl, rfl, S89, (stirs_len hXl 24), r99, (by omega), (by omega), (absorb_at hXm (by omega) hab)⟩
  ·refine do_ rfl (.bool false) (ex_gtr (m := ((rn : Nat) : Int)) (n := (0 : Int)) (b := false) rfl rfl (decide_eq_false (by omega))) ?_
   simp only [pS, pN, pA, pC, pZ]
   refine wl_nil (hK55 _ _ ?_)
   refine wp_cond_false rfl ?_
   refine wp_exit ?_
   refine hK45 _ _ ?_
   refine wp_seq_k (fun K100 hK100 => ?_)
   have hZa := absorb_end (by omega) hab
   refine region_wl ?_
   refine stMake (k := 1) (n := 32) (m := 32) S51 rfl i5 (.int .u8 0) 1 Tryd.underlying23 hi5 hz5 hs5 hb5 rfl rfl (by omega) (by omega) (by omega) ?_
   intro g101 w102 S103
   rw [made_bytes] at S103
   simp only [pS, pN, pA, pC, pZ]
   have S103 : St w F w102 F37 [⟨g101, ((List.replicate 32 (0 : UInt8)).map bv), 5⟩, ⟨n42, (Z.map laneV), 147⟩] [] := S103
   have S103 : St w F w102 F37 [⟨g101, ((outK Z 0).map bv), 5⟩, ⟨n42, (Z.map laneV), 147⟩] [] := by rw [outK_zero]; exact S103
   refine do_ rfl (.slice (some ⟨g101, 0, none⟩) 32 32) (ex_assign _) ?_
   simp only [pS, pN, pA, pC, pZ]
   refine wl_nil (hK100 _ _ ?_)
   refine wp_seq_k (fun K104 hK104 => ?_)
   refine wp_seq_k (fun K105 hK105 => region_wl ?_)
   refine do_ rfl (.slice (some ⟨g101, 0, none⟩) 32 32) (ex_move _) ?_
   simp only [pS, pN, pA, pC, pZ]
   refine do_ rfl (.int .i64 32) (ex_len Tryd.underlying23 rfl) ?_
   simp only [pS, pN, pA, pC, pZ]
   refine do_ rfl (.int .i64 0) (ex_move _) ?_
   simp only [pS, pN, pA, pC, pZ]
   refine wl_nil (hK105 _ _ ?_)
   refine wp_block ?_
   refine wp_loop_g (fun mm aa w107 => ∃ (j : Nat) (u106 : Nat → Value), mm = 32 - j ∧ u106 = slots aa ∧ aa = ⟨#[(.slice x b.length y), undef, (.slice none 0 0), (.slice ra rn rc), (.pointer (some ⟨n42, 0, none⟩)), (u46 5), (u46 6), (.slice (some ⟨g101, 0, none⟩) 32 32), (u106 8), (.slice x b.length y), v4, (.slice (some ⟨n8, 0, none⟩) 1 1), v11, (.slice (some ⟨g31, 0, none⟩) (padK b (padN b)).length cap27), (.int .i64 (((padK b (padN b)).length : Nat) : Int)), (.int .i64 ((((padK b (padN b)).length % 136) : Nat) : Int)), (.bool false), (u16 17), (u16 18), (u16 19), (.slice (some ⟨g31, 0, none⟩) (padK b (padN b)).length cap27), (.slice (some ⟨g31, 0, none⟩) (padK b (padN b)).length cap27), (.int .i64 (((padK b (padN b)).length : Nat) : Int)), (.int .i64 ((((padK b (padN b)).length - 1) : Nat) : Int)), (.pointer (some ⟨g31, 0 + ((padK b (padN b)).length - 1) * 1, none⟩)), (bv xb), (bv (xb ||| 128)), (.pointer (some ⟨g31, 0 + ((padK b (padN b)).length - 1) * 1, none⟩)), (.slice ra rn rc), (.int .i64 ((rn : Nat) : Int)), (.bool false), (u46 31), (u46 32), (u46 33), (u46 34), (u46 35), (u46 36), (u46 37), (u46 38), (u46 39), (u46 40), (u46 41), (u46 42), (u46 43), (u46 44), (u46 45), (u46 46), (u46 47), (u46 48), (u46 49), (u46 50), (u46 51), (u46 52), (u46 53), (u46 54), (u46 55), (u46 56), (u46 57), (.slice (some ⟨g101, 0, none⟩) 32 32), (.slice (some ⟨g101, 0, none⟩) 32 32), (.int .i64 32), (.int .i64 ((j : Nat) : Int)), (u106 62), (u106 63), (u106 64), (u106 65), (u106 66), (u106 67), (u106 68), (u106 69), (u106 70), (u106 71), (u106 72), (u106 73), (u106 74), (u106 75), (u106 76), undef], []⟩ ∧ St w F w107 F37 [⟨g101, ((outK Z j).map bv), 5⟩, ⟨n42, (Z.map laneV), 147⟩] [] ∧ (j ≤ 32)) _ ⟨0, _, rfl, rfl, rfl, S103, (by omega)⟩ ?_
   rintro m108 a109 w110 ⟨j, u106, rfl, -, rfl, S111, hj⟩ K113 hK113
   refine wp_seq_k (fun K114 hK114 => region_wl ?_)
   by_cases hc62 : j < 32
   ·refine do_ rfl (.bool true) (ex_lss (m := ((j : Nat) : Int)) (n := (32 : Int)) (b := true) rfl rfl (decide_eq_true (by omega))) ?_
    simp only [pS, pN, pA, pC, pZ]
    refine wl_nil (hK114 _ _ ?_)
    refine wp_seq_k (fun K115 hK115 => ?_)
    refine wp_cond_true rfl ?_
    refine wp_skip ?_
    refine hK115 _ _ ?_
    refine wp_seq_k (fun K116 hK116 => ?_)
    refine wp_block ?_
    refine wp_seq_k (fun K117 hK117 => region_wl ?_)
    refine do_ rfl (.int .i64 ((j : Nat) : Int)) (ex_move _) ?_
    simp only [pS, pN, pA, pC, pZ]
    refine do_ rfl (.int .i64 ((j : Nat) : Int)) (ex_assign _) ?_
    simp only [pS, pN, pA, pC, pZ]
    refine wl_nil (hK117 _ _ ?_)
    refine region_wl ?_
    refine do_ rfl (.slice (some ⟨g101, 0, none⟩) 32 32) (ex_move _) ?_
    simp only [pS, pN, pA, pC, pZ]
    refine do_ rfl (.int .i64 ((j : Nat) : Int)) (ex_move _) ?_
    simp only [pS, pN, pA, pC, pZ]
    refine do_ rfl (.int .i64 ((j : Nat) : Int)) (ex_move _) ?_
    simp only [pS, pN, pA, pC, pZ]
    refine do_ rfl (.int .i64 (((j / 8) : Nat) : Int)) (ex_quoA (m := j) (n := 8) rfl rfl (by decide) (by omega)) ?_
    simp only [pS, pN, pA, pC, pZ]
    refine do_ rfl (.pointer (some ⟨n42, (j / 8), none⟩)) (ex_atA (i := (j / 8)) Tryd.underlying147 (sizeof_145 _) rfl rfl (by omega)) ?_
    simp only [pS, pN, pA, pC, pZ]
    refine do_ rfl (laneV (at0 Z (j / 8))) (ex_load rfl (load1 (nagg_145 _) (St.cell S111 (i := 1) rfl (lanes_at (Nat.lt_of_lt_of_eq (show (j / 8) < 25 by omega) hZ.symm))))) ?_
    simp only [pS, pN, pA, pC, pZ]
    refine do_ rfl (.int .i64 ((j : Nat) : Int)) (ex_move _) ?_
    simp only [pS, pN, pA, pC, pZ]
    refine do_ rfl (.int .i64 (((j % 8) : Nat) : Int)) (ex_remA (m := j) (n := 8) rfl rfl (by decide) (by omega)) ?_
    simp only [pS, pN, pA, pC, pZ]
    refine do_ rfl (.int .i64 ((((j % 8) * 8) : Nat) : Int)) (ex_mul (m := (((j % 8) : Nat) : Int)) (n := (8 : Int)) (r := ((((j % 8) * 8) : Nat) : Int)) rfl rfl (by omega) (by omega) (by omega)) ?_
    simp only [pS, pN, pA, pC, pZ]
    refine do_ rfl (laneV ((at0 Z (j / 8)) >>> ((j % 8) * 8))) (ex_shrL (n := ((j % 8) * 8)) rfl rfl (by omega)) ?_
    simp only [pS, pN, pA, pC, pZ]
    refine do_ rfl (bv (UInt8.ofNat (((at0 Z (j / 8)) >>> ((j % 8) * 8)).toNat % 256))) (ex_convert (v := (laneV ((at0 Z (j / 8)) >>> ((j % 8) * 8)))) rfl (conv_low ((at0 Z (j / 8)) >>> ((j % 8) * 8)) _)) ?_
    simp only [pS, pN, pA, pC, pZ]
    refine do_ rfl (.pointer (some ⟨g101, 0 + j * 1, none⟩)) (ex_at (i := j) (sz := 1) Tryd.underlying23 (sizeof_5 _) rfl rfl rfl (by omega) rfl) ?_
    simp only [pS, pN, pA, pC, pZ]
    refine stStore (i := 0) (v := bv (UInt8.ofNat (((at0 Z (j / 8)) >>> ((j % 8) * 8)).toNat % 256))) S111 rfl rfl rfl rfl (size_5) (allc1 rfl) (by rw [List.length_map, outK_len]; show 0 + j * 1 + 1 ≤ 32; omega) (fun w118 S119 => ?_)
    simp only [pS, pN, pA, pC, pZ]
    have S119 : St w F w118 F37 [⟨g101, (splice ((outK Z j).map bv) (0 + j * 1) [bv (UInt8.ofNat (((at0 Z (j / 8)) >>> ((j % 8) * 8)).toNat % 256))]), 5⟩, ⟨n42, (Z.map laneV), 147⟩] [] := S119
    rw [Nat.zero_add, Nat.mul_one, bytes_set (by rw [outK_len]; omega)] at S119
    have S119 : St w F w118 F37 [⟨g101, (((outK Z j).set j (outAt Z j)).map bv), 5⟩, ⟨n42, (Z.map laneV), 147⟩] [] := S119
    rw [outK_step Z (by omega)] at S119
    refine wl_nil (hK116 _ _ ?_)
    refine region_wl ?_
    refine do_ rfl (.int .i64 (((j + 1) : Nat) : Int)) (ex_add (m := ((j : Nat) : Int)) (n := (1 : Int)) (r := (((j + 1) : Nat) : Int)) rfl rfl (by omega) (by omega) (by omega)) ?_
    simp only [pS, pN, pA, pC, pZ]
    refine do_ rfl (.int .i64 (((j + 1) : Nat) : Int)) (ex_move _) ?_
    simp only [pS, pN, pA, pC, pZ]
    refine wl_nil ?_
    exact hK113 _ _ _ (by omega) ⟨(j + 1), _, rfl, rfl, rfl, S119, (by omega)⟩
   ·refine do_ rfl (.bool false) (ex_lss (m := ((j : Nat) : Int)) (n := (32 : Int)) (b := false) rfl rfl (decide_eq_false (by omega))) ?_
    simp only [pS, pN, pA, pC, pZ]
    refine wl_nil (hK114 _ _ ?_)
    refine wp_seq_k (fun K120 hK120 => ?_)
    refine wp_cond_false rfl ?_
    refine wp_exit ?_
    refine hK104 _ _ ?_
    refine wp_seq_k (fun K121 hK121 => ?_)
    obtain rfl : j = 32 := by omega
    rw [outK_all] at S111
    refine region_wl ?_
    refine do_ rfl (.slice (some ⟨g101, 0, none⟩) 32 32) (ex_move _) ?_
    simp only [pS, pN, pA, pC, pZ]
    refine do_ rfl (.slice (some ⟨g101, 0, none⟩) 32 32) (ex_assign _) ?_
    simp only [pS, pN, pA, pC, pZ]
    refine wl_nil (hK121 _ _ ?_)
    refine wp_ret ?_
    (try simp only [Exit.then, Exit.inBlock, ↓reduceIte, Nat.reduceEqDiff])
    refine bodyPost_ret (v := (.slice (some ⟨g101, 0, none⟩) 32 32)) ?_ rfl ?_
    ·exact res_t rfl rfl
    ·have hB := St.blkRow (k := 1) (l := outL Z) (el := (outL Z).map fun b => [bv b]) (hR := ByC.mono) (cap := 32) S111 (by rw [bytes_flat, List.take_of_length_le (by rw [List.length_map, outL_len]; decide)]) (allR_bytes _ _) (by simp) (by rw [List.length_map, outL_len]) (by rw [outL_len]; decide) (by unfold maxLen; decide) (S111.blk _ (List.mem_cons_self ..)).2.2
     rw [outL_len] at hB
     refine ⟨_, _, rfl, hB.gr, ?_⟩
     have hO := St.own (i := 0) hB rfl
     unfold sumL
     rw [← hZa]
     exact hO
 ·refine do_ rfl (.bool true) (ex_neq (m := ((((padK b k).length % 136) : Nat) : Int)) (n := (0 : Int)) (b := true) rfl rfl (bne_iff_ne.2 (by omega))) ?_
  simp only [pS, pN, pA, pC, pZ]
  refine wl_nil (hK25 _ _ ?_)
  refine wp_cond_true rfl ?_
  refine wp_skip ?_
  refine hK24 _ _ ?_
  refine wp_block ?_
  refine region_wl ?_
  refine do_ rfl (.slice a26 (padK b k).length cap27) (ex_move _) ?_
  simp only [pS, pN, pA, pC, pZ]
  refine stNew S21 (v := fun n => .slice (some ⟨n, 0, none⟩) 1 1) rfl (ex_lit (ps := #[(0, (.int .u8 0))]) (cells := #[(.int .u8 0)]) (E := 5) (bmap1 rfl) (fun w => by kernel_rfl)) (fun n122 w123 S124 => ?_)
  simp only [pS, pN, pA, pC, pZ]
  have S124 : St w F w123 F [⟨n122, [(.int .u8 0)], 5⟩] [ownP 1 ByC ByC.mono 5 w.heap.size (.slice a26 (padK b k).length cap27) (padK b k)] := S124
  refine stPush (i := 0) (r := 0) (p := (0 : UInt8)) (cs := [(.int .u8 0)]) S124 rfl i5 (.int .u8 0) 1 Tryd.underlying23 hi5 hz5 hs5 hb5 rfl (by decide) rfl rfl rfl rfl rfl (bv_one 0) (rfl) (Nat.le_refl _) S124.gr.below.size (by unfold maxLen; omega) (by omega) ?_
  intro v125 w126 S127 hn128
  simp only [pS, pN, pA, pC, pZ]
  have S127 := St.drop S127 (L' := []) (.cons _ (List.Sublist.refl _))
  have S127 : St w F w126 F [] [ownP 1 ByC ByC.mono 5 w.heap.size v125 ((padK b k) ++ [(0 : UInt8)])] := S127
  refine do_ rfl v125 (ex_assign _) ?_
  simp only [pS, pN, pA, pC, pZ]
  refine wl_nil ?_
  rw [padK_step] at S127
  have hk2 : k + 1 ≤ padN b := by unfold padN at *; omega
  exact hK23 _ _ _ (by omega) ⟨(k + 1), v125, _, rfl, rfl, rfl, S127, hk2⟩
theorem sum_spec (F : Fz) (w : World) (v : Value) (b : By) (hs : Sat w F) (hT : Tabs w) (hb : Bs F v b) (hn : b.length ≤ 100000) :
    Calls Tryd.prog 72 #[v] w (Gives w F fun F' u => Bs F' u (sumL b)) :=
  (gives_of_own ByC.mono (sum_own F w v b hs hT hb hn)).mono fun e w' ⟨u, F', he, g, hu⟩ => ⟨u, F', he, g, bs_of_sl hu⟩
end Go.Proofs.YtikklmjengkliaaDoor
namespace Go.Proofs.YtikklmjengkliaaDoor
open Go.RowKit
set_option maxRecDepth 100000
set_option linter.unusedVariables false
set_option linter.unusedSimpArgs false
/-- A slice of byte slices. -/
def LsC (F : Fz) (cs : List Value) (p : By) : Prop := ∃ a, cs = [a] ∧ Bs F a p
theorem LsC.mono (F F' : Fz) (x : List Value) (p : By) (hl : Le F F') (h : LsC F x p) : LsC F' x p := by
  obtain ⟨a, h1, h2⟩ := h
  exact ⟨a, h1, h2.mono hl⟩
abbrev Lss (F : Fz) (v : Value) (l : List By) : Prop := Sl 1 LsC F v l
theorem Lss.get {F : Fz} {a : Option Addr} {n c : Nat} {l : List By} (h : Lss F (.slice a n c) l) {i : Nat} {p : By} (hp : l[i]? = some p) :
    ∃ b o, a = some ⟨b, o, none⟩ ∧ ∃ xa xc, cellF F b (o + i * 1) = some (.slice xa p.length xc) ∧ Bs F (.slice xa p.length xc) p := by
  obtain ⟨hi, rfl⟩ := List.getElem?_eq_some_iff.1 hp
  have hn := h.len
  obtain ⟨b, o, e, h1⟩ := Sl.at h (by omega) (by omega)
  obtain ⟨cs, q1, ⟨x, rfl, r1⟩, q4⟩ := h1 i hi
  obtain ⟨xa, xc, rfl, _⟩ := r1.shape
  exact ⟨b, o, e, xa, xc, by have := q4 0 (by simp); simpa using this, r1⟩
theorem Lss.mono {F F' : Fz} {v : Value} {l : List By} (h : Lss F v l) (hl : Le F F') : Lss F' v l := Sl.mono LsC.mono h hl
def SumR (b : By) (e : Int) (F : Fz) (u : Value) : Prop := ∃ x, u = .tuple #[x, .int .i64 e] ∧ Bs F x b
set_option maxHeartbeats 8000000 in
theorem Sum_spec (F : Fz) (w : World) (v : Value) (b : By) (hs : Sat w F) (hT : Tabs w) (hb : Bs F v b) (hn : b.length ≤ 4000) :
    Calls Tryd.prog 59 #[v] w (Gives w F (SumR (sumL b) 0)) := by
 obtain ⟨x, y, rfl, hc1', hc2'⟩ := hb.shape
 unfold maxLen at hc2'
 have S := St.start hs
 go_enter Tryd.func59, Tryd.ntmps59
 refine wp_seq_k (fun K1 hK1 => region_wl ?_)
 refine do_ rfl (.slice none 0 0) (ex_assign _) ?_
 simp only [pS, pN, pA, pC, pZ]
 refine do_ rfl (.int .i64 0) (ex_assign _) ?_
 simp only [pS, pN, pA, pC, pZ]
 refine wl_nil (hK1 _ _ ?_)
 refine wp_seq_k (fun K2 hK2 => ?_)
 refine wp_seq_k (fun K3 hK3 => region_wl ?_)
 refine do_ rfl (.slice x b.length y) (ex_move _) ?_
 simp only [pS, pN, pA, pC, pZ]
 refine do_ rfl (.int .i64 ((b.length : Nat) : Int)) (ex_len Tryd.underlying23 rfl) ?_
 simp only [pS, pN, pA, pC, pZ]
 refine do_ rfl (.bool false) (ex_gtr (m := ((b.length : Nat) : Int)) (n := (4000 : Int)) (b := false) rfl rfl (decide_eq_false (by omega))) ?_
 simp only [pS, pN, pA, pC, pZ]
 refine wl_nil (hK3 _ _ ?_)
 refine wp_cond_false rfl ?_
 refine wp_skip ?_
 refine hK2 _ _ ?_
 refine wp_seq_k (fun K4 hK4 => region_wl ?_)
 refine do_ rfl (.slice x b.length y) (ex_move _) ?_
 simp only [pS, pN, pA, pC, pZ]
 refine stGives S rfl (ex_fn (vs := #[(.slice x b.length y)]) (map1 rfl) rfl (ent_72 _ _)) (sum_spec _ _ _ b (S).sat (hT.at S.gr.below) hb (by omega)) ?_
 intro v10 w5 F7 S6 le8 R9
 obtain ⟨xa11, xc12, rfl, _⟩ := R9.shape
 simp only [pS, pN, pA, pC, pZ]
 refine do_ rfl (.slice xa11 (sumL b).length xc12) (ex_assign _) ?_
 simp only [pS, pN, pA, pC, pZ]
 refine do_ rfl (.int .i64 0) (ex_assign _) ?_
 simp only [pS, pN, pA, pC, pZ]
 refine wl_nil (hK4 _ _ ?_)
 refine wp_ret ?_
 (try simp only [Exit.then, Exit.inBlock, ↓reduceIte, Nat.reduceEqDiff])
 refine bodyPost_ret (v := (.tuple #[(.slice xa11 (sumL b).length xc12), (.int .i64 0)])) ?_ rfl ?_
 ·exact res_tt rfl rfl rfl
 ·exact ⟨_, _, rfl, S6.gr, _, rfl, R9⟩
end Go.Proofs.YtikklmjengkliaaDoor
namespace Go.Proofs.YtikklmjengkliaaDoor
open Go.ChangeShapes Go.WideShapes Go.ChangeAt Go.RowKit
set_option maxRecDepth 100000
def roundsZ : List Int := [1, 32898, 9223372036854808714, 9223372039002292224, 32907, 2147483649, 9223372039002292353, 9223372036854808585, 138, 136, 2147516425, 2147483658, 2147516555, 9223372036854775947, 9223372036854808713, 9223372036854808579, 9223372036854808578, 9223372036854775936, 32778, 9223372039002259466, 9223372039002292353, 9223372036854808704, 2147483649, 9223372039002292232]
theorem gRounds : Tryd.prog.globalNamed "canopy/digest.rounds" = some 3 := by kernel_rfl
theorem gRoundsType : (Tryd.prog.globals[(3 : Nat)]?).map (·.type) = some 148 := by kernel_rfl
theorem gRoundsCells : Tryd.prog.cellsOf 148 = 24 := by kernel_rfl
theorem gRoundsOne : Tryd.prog.cellsOf 145 = 1 := by kernel_rfl
def goesZ : List Int := [10, 7, 11, 17, 18, 3, 5, 16, 8, 21, 24, 4, 15, 23, 19, 13, 12, 2, 20, 14, 22, 9, 6, 1]
theorem gGoes : Tryd.prog.globalNamed "canopy/digest.goes" = some 1 := by kernel_rfl
theorem gGoesType : (Tryd.prog.globals[(1 : Nat)]?).map (·.type) = some 164 := by kernel_rfl
theorem gGoesCells : Tryd.prog.cellsOf 164 = 24 := by kernel_rfl
theorem gGoesOne : Tryd.prog.cellsOf 3 = 1 := by kernel_rfl
def turnsZ : List Int := [1, 3, 6, 10, 15, 21, 28, 36, 45, 55, 2, 14, 27, 41, 56, 8, 25, 43, 62, 18, 39, 61, 20, 44]
theorem gTurns : Tryd.prog.globalNamed "canopy/digest.turns" = some 2 := by kernel_rfl
theorem gTurnsType : (Tryd.prog.globals[(2 : Nat)]?).map (·.type) = some 164 := by kernel_rfl
theorem gTurnsCells : Tryd.prog.cellsOf 164 = 24 := by kernel_rfl
theorem gTurnsOne : Tryd.prog.cellsOf 3 = 1 := by kernel_rfl
theorem goes_are : ∀ i, i < 24 → goesZ.getD i 0 = (goesN i : Int) := by decide +kernel
theorem turns_are : ∀ i, i < 24 → turnsZ.getD i 0 = (turnsN i : Int) := by decide +kernel
theorem rounds_are : ∀ i, i < 24 → roundsZ.getD i 0 = lane (roundB i) := by unfold lane; decide +kernel
theorem tab_at {W : World} {name : String} {k : IntKind} {zs : List Int} {g : Nat} (h : Lib.TabIs Tryd.prog W name k zs) (hg : Tryd.prog.globalNamed name = some g) {n : Nat} (hn : zs.length = n) {i : Nat} (hi : i < n) : W.cell? ⟨g, i, none⟩ = some (.int k (zs.getD i 0)) := by
  have hi' : i < zs.length := by omega
  have := h.cell hg i hi'
  exact this.trans (by simp [List.getD, hi'])
theorem dig_met {W : World} (h : laidMetH Tryd.prog [("canopy/digest.rounds", Rows.laid_canopy_digest_rounds), ("canopy/digest.goes", Rows.laid_canopy_digest_goes), ("canopy/digest.turns", Rows.laid_canopy_digest_turns)] W) : Tabs W := by
  have hr : Lib.TabIs Tryd.prog W "canopy/digest.rounds" .u64 roundsZ :=
    tabIs_at (l := [("canopy/digest.rounds", Rows.laid_canopy_digest_rounds), ("canopy/digest.goes", Rows.laid_canopy_digest_goes), ("canopy/digest.turns", Rows.laid_canopy_digest_turns)]) h 0 _ _ _ rfl gRounds gRoundsType Tryd.underlying148 Tryd.underlying145 gRoundsOne gRoundsCells
  have hg : Lib.TabIs Tryd.prog W "canopy/digest.goes" .i64 goesZ :=
    tabIs_at (l := [("canopy/digest.rounds", Rows.laid_canopy_digest_rounds), ("canopy/digest.goes", Rows.laid_canopy_digest_goes), ("canopy/digest.turns", Rows.laid_canopy_digest_turns)]) h 1 _ _ _ rfl gGoes gGoesType Tryd.underlying164 Tryd.underlying3 gGoesOne gGoesCells
  have ht : Lib.TabIs Tryd.prog W "canopy/digest.turns" .i64 turnsZ :=
    tabIs_at (l := [("canopy/digest.rounds", Rows.laid_canopy_digest_rounds), ("canopy/digest.goes", Rows.laid_canopy_digest_goes), ("canopy/digest.turns", Rows.laid_canopy_digest_turns)]) h 2 _ _ _ rfl gTurns gTurnsType Tryd.underlying164 Tryd.underlying3 gTurnsOne gTurnsCells
  refine ⟨fun i hi => ?_, fun i hi => ?_, fun i hi => ?_⟩
  · rw [tab_at hg gGoes (n := 24) rfl hi, goes_are i hi]
  · rw [tab_at ht gTurns (n := 24) rfl hi, turns_are i hi]
  · rw [tab_at hr gRounds (n := 24) rfl hi, rounds_are i hi]
def setCells (cs : Array Value) : Obj → Obj
  | .cells _ t frozen => .cells cs t frozen
  | o => o
noncomputable def digWorld (os : Os) : World :=
  { World.holding Tryd.prog os ⟨#[], #[], []⟩ with heap := (((World.holding Tryd.prog os ⟨#[], #[], []⟩).heap.modify 3 (setCells #[.int .u64 1, .int .u64 32898, .int .u64 9223372036854808714, .int .u64 9223372039002292224, .int .u64 32907, .int .u64 2147483649, .int .u64 9223372039002292353, .int .u64 9223372036854808585, .int .u64 138, .int .u64 136, .int .u64 2147516425, .int .u64 2147483658, .int .u64 2147516555, .int .u64 9223372036854775947, .int .u64 9223372036854808713, .int .u64 9223372036854808579, .int .u64 9223372036854808578, .int .u64 9223372036854775936, .int .u64 32778, .int .u64 9223372039002259466, .int .u64 9223372039002292353, .int .u64 9223372036854808704, .int .u64 2147483649, .int .u64 9223372039002292232])).modify 1 (setCells #[.int .i64 10, .int .i64 7, .int .i64 11, .int .i64 17, .int .i64 18, .int .i64 3, .int .i64 5, .int .i64 16, .int .i64 8, .int .i64 21, .int .i64 24, .int .i64 4, .int .i64 15, .int .i64 23, .int .i64 19, .int .i64 13, .int .i64 12, .int .i64 2, .int .i64 20, .int .i64 14, .int .i64 22, .int .i64 9, .int .i64 6, .int .i64 1])).modify 2 (setCells #[.int .i64 1, .int .i64 3, .int .i64 6, .int .i64 10, .int .i64 15, .int .i64 21, .int .i64 28, .int .i64 36, .int .i64 45, .int .i64 55, .int .i64 2, .int .i64 14, .int .i64 27, .int .i64 41, .int .i64 56, .int .i64 8, .int .i64 25, .int .i64 43, .int .i64 62, .int .i64 18, .int .i64 39, .int .i64 61, .int .i64 20, .int .i64 44]) }
end Go.Proofs.YtikklmjengkliaaDoor
namespace Go.Proofs.YtikklmjengkliaaDoor
open Go.RowKit
set_option linter.unusedVariables false

structure Tp where
  data : By
  synced : Nat
/-- A commit's bytes behind their length. -/
def bodyB (m : Cm) : By := b8 ((encCm m.turn m.writes).length / 256) :: b8 (encCm m.turn m.writes).length :: encCm m.turn m.writes
/-- .. and their digest's first bytes. -/
def frameB (m : Cm) : By := bodyB m ++ (sumL (bodyB m)).take 4
def tapeB (cs : List Cm) : By := cs.flatMap frameB
def chunkR (r : By) (k : Nat) : Option (Cm × Nat) :=
  if r.length < 2 then none else
  if 4000 < 2 + (r.getD 0 0).toNat * 256 + (r.getD 1 0).toNat ∨ r.length < 2 + (r.getD 0 0).toNat * 256 + (r.getD 1 0).toNat + 4 then none else
  if (sumL (r.take (2 + (r.getD 0 0).toNat * 256 + (r.getD 1 0).toNat))).take 4 ≠ (r.drop (2 + (r.getD 0 0).toNat * 256 + (r.getD 1 0).toNat)).take 4 then none else
  if decE ((r.take (2 + (r.getD 0 0).toNat * 256 + (r.getD 1 0).toNat)).drop 2) ≠ 0 ∨ (decC ((r.take (2 + (r.getD 0 0).toNat * 256 + (r.getD 1 0).toNat)).drop 2)).turn ≠ k + 1 then none else
  some (decC ((r.take (2 + (r.getD 0 0).toNat * 256 + (r.getD 1 0).toNat)).drop 2), 2 + (r.getD 0 0).toNat * 256 + (r.getD 1 0).toNat + 4)
def recL : Nat → By → Nat → List Cm × Nat
  | 0, _, _ => ([], 0)
  | f + 1, r, k => match chunkR r k with
    | none => ([], 0)
    | some p => (p.1 :: (recL f (r.drop p.2) (k + 1)).1, p.2 + (recL f (r.drop p.2) (k + 1)).2)
def recT (d : By) : List Cm × Nat := recL d.length d 0
theorem recL_none {r : By} {k : Nat} (h : chunkR r k = none) (f : Nat) : recL f r k = ([], 0) := by
  cases f with
  | zero => rfl
  | succ f => rw [recL, h]
theorem recL_some {r : By} {k f : Nat} {p : Cm × Nat} (h : chunkR r k = some p) : recL (f + 1) r k = (p.1 :: (recL f (r.drop p.2) (k + 1)).1, p.2 + (recL f (r.drop p.2) (k + 1)).2) := by rw [recL, h]
theorem bodyB_len {m : Cm} (hm : CmOk m) : (bodyB m).length = 2 + (encCm m.turn m.writes).length ∧ (bodyB m).length ≤ 596 ∧ 6 ≤ (bodyB m).length := by
  have := encCm_len hm
  have h : (bodyB m).length = 2 + (encCm m.turn m.writes).length := by simp [bodyB]; omega
  omega
theorem frameB_len {m : Cm} (hm : CmOk m) : (frameB m).length = 6 + (encCm m.turn m.writes).length ∧ (frameB m).length = (bodyB m).length + 4 := by
  have := bodyB_len hm
  have : (frameB m).length = (bodyB m).length + 4 := by
    unfold frameB
    rw [List.length_append, List.length_take, sumL_len]
    omega
  omega
theorem body_num {m : Cm} (hm : CmOk m) {t : By} : 2 + (((frameB m) ++ t).getD 0 0).toNat * 256 + (((frameB m) ++ t).getD 1 0).toNat = (bodyB m).length := by
  have h1 := encCm_len hm
  have h2 := bodyB_len hm
  have e0 : ((frameB m) ++ t).getD 0 0 = b8 ((encCm m.turn m.writes).length / 256) := by simp [frameB, bodyB]
  have e1 : ((frameB m) ++ t).getD 1 0 = b8 (encCm m.turn m.writes).length := by simp [frameB, bodyB]
  rw [e0, e1, b8_toNat (by omega)]
  have : (b8 (encCm m.turn m.writes).length).toNat = (encCm m.turn m.writes).length % 256 := by simp [b8]
  omega
/-- A whole frame is read. -/
theorem chunk_frame {m : Cm} (hm : CmOk m) {t : By} {k : Nat} : chunkR (frameB m ++ t) k = if m.turn = k + 1 then some (m, (frameB m).length) else none := by
  have h2 := bodyB_len hm
  have h3 := frameB_len hm
  have hl : (frameB m ++ t).length = (bodyB m).length + 4 + t.length := by rw [List.length_append]; omega
  have ht : (frameB m ++ t).take (bodyB m).length = bodyB m := by
    rw [show frameB m = bodyB m ++ (sumL (bodyB m)).take 4 from rfl, List.append_assoc, List.take_left']
    rfl
  have hd : ((frameB m ++ t).drop (bodyB m).length).take 4 = (sumL (bodyB m)).take 4 := by
    rw [show frameB m = bodyB m ++ (sumL (bodyB m)).take 4 from rfl, List.append_assoc, List.drop_left' rfl, List.take_append_of_le_length (by rw [List.length_take, sumL_len]; omega), List.take_take]
    simp
  have hb : (bodyB m).drop 2 = encCm m.turn m.writes := rfl
  obtain ⟨d1, d2⟩ := dec_back hm
  unfold chunkR
  rw [body_num hm, if_neg (by omega), if_neg (by omega), ht, hd, if_neg (by simp), hb, d1, d2]
  by_cases h : m.turn = k + 1
  · rw [if_neg (by simp [h]), if_pos h, h3.2]
  · rw [if_pos (.inr h), if_neg h]
/-- A torn one is not. -/
theorem chunk_torn {m : Cm} (hm : CmOk m) {n k : Nat} (hn : n < (frameB m).length) : chunkR ((frameB m).take n) k = none := by
  have h2 := bodyB_len hm
  have h3 := frameB_len hm
  unfold chunkR
  have hl : ((frameB m).take n).length = n := by rw [List.length_take]; omega
  rw [hl]
  by_cases h : n < 2
  · rw [if_pos h]
  · rw [if_neg h]
    have e : 2 + (((frameB m).take n).getD 0 0).toNat * 256 + (((frameB m).take n).getD 1 0).toNat = (bodyB m).length := by
      rw [← body_num hm (t := [])]
      have q : ∀ i, i < 2 → ((frameB m).take n).getD i 0 = (frameB m ++ []).getD i 0 := by
        intro i hi
        rw [List.append_nil, List.getD_eq_getElem?_getD, List.getD_eq_getElem?_getD, List.getElem?_take_of_lt (by omega)]
      rw [q 0 (by omega), q 1 (by omega)]
    rw [e, if_pos (.inr (by omega))]
theorem tapeB_append (a b : List Cm) : tapeB (a ++ b) = tapeB a ++ tapeB b := by simp [tapeB]
/-- Commits in their turns, then something whose first chunk is none. -/
theorem rec_of : ∀ (cs : List Cm) (f k : Nat) (t : By), (∀ c ∈ cs, CmOk c) → (∀ (i : Nat) (h : i < cs.length), cs[i].turn = k + i + 1) → chunkR t (k + cs.length) = none → (tapeB cs ++ t).length ≤ f → recL f (tapeB cs ++ t) k = (cs, (tapeB cs).length)
  | [], f, k, t, _, _, ht, _ => by
    rw [show tapeB ([] : List Cm) ++ t = t from rfl, recL_none (by simpa using ht)]
    rfl
  | c :: cs, f, k, t, hok, htn, ht, hf => by
    have hc := hok c (by simp)
    have h3 := frameB_len hc
    have hb := bodyB_len hc
    have e : tapeB (c :: cs) ++ t = frameB c ++ (tapeB cs ++ t) := by simp [tapeB]
    have ht0 : c.turn = k + 1 := by have := htn 0 (by simp); simpa using this
    have hch := chunk_frame hc (t := tapeB cs ++ t) (k := k)
    rw [if_pos ht0] at hch
    rw [e] at hf ⊢
    match f, hf with
    | 0, hf => rw [List.length_append] at hf; omega
    | f + 1, hf =>
      rw [recL_some hch]
      simp only
      rw [List.drop_left' rfl, rec_of cs f (k + 1) t (fun x hx => hok x (by simp [hx])) (fun i hi => by have := htn (i + 1) (by simpa using hi); simp at this; omega) (by rw [show k + 1 + cs.length = k + (c :: cs).length from by simp; omega]; exact ht) (by rw [List.length_append] at hf; omega)]
      refine Prod.ext rfl ?_
      simp [tapeB]
/-- How many whole commits so many bytes hold. -/
def wholeN : List Cm → Nat → Nat
  | [], _ => 0
  | c :: cs, n => if (frameB c).length ≤ n then 1 + wholeN cs (n - (frameB c).length) else 0
theorem wholeN_le : ∀ (cs : List Cm) (n : Nat), wholeN cs n ≤ cs.length
  | [], _ => by simp [wholeN]
  | c :: cs, n => by
    unfold wholeN
    split
    · have := wholeN_le cs (n - (frameB c).length); simp; omega
    · simp
/-- So many bytes of a tape: the whole commits, and a torn one. -/
theorem take_tape : ∀ (cs : List Cm) (n k : Nat), (∀ c ∈ cs, CmOk c) → n ≤ (tapeB cs).length → ∃ t, (tapeB cs).take n = tapeB (cs.take (wholeN cs n)) ++ t ∧ (∀ k, chunkR t k = none) ∧ (t = [] ∨ wholeN cs n < cs.length) ∧ (n = (tapeB cs).length → wholeN cs n = cs.length)
  | [], n, k, _, _ => ⟨[], by simp [tapeB], fun k => by unfold chunkR; rw [if_pos (by simp)], .inl rfl, fun _ => rfl⟩
  | c :: cs, n, k, hok, hn => by
    have hc := hok c (by simp)
    have h3 := frameB_len hc
    have e : tapeB (c :: cs) = frameB c ++ tapeB cs := by simp [tapeB]
    rw [e, List.length_append] at hn
    by_cases hw : (frameB c).length ≤ n
    · obtain ⟨t, h1, h2, h4, h5⟩ := take_tape cs (n - (frameB c).length) k (fun x hx => hok x (by simp [hx])) (by omega)
      have ew : wholeN (c :: cs) n = wholeN cs (n - (frameB c).length) + 1 := by rw [wholeN, if_pos hw]; omega
      refine ⟨t, ?_, h2, ?_, fun h => ?_⟩
      · rw [e, ew, List.take_succ_cons, show n = (frameB c).length + (n - (frameB c).length) from by omega, List.take_append]
        simp only [Nat.add_sub_cancel_left]
        rw [List.take_of_length_le (by omega), h1]
        simp [tapeB]
      · rw [ew, List.length_cons]
        rcases h4 with h4 | h4
        · exact .inl h4
        · exact .inr (by omega)
      · rw [ew, List.length_cons, h5 (by rw [e, List.length_append] at h; omega)]
    · have ew : wholeN (c :: cs) n = 0 := by rw [wholeN, if_neg hw]
      refine ⟨(frameB c).take n, ?_, fun k => chunk_torn hc (by omega), ?_, fun h => ?_⟩
      · rw [e, ew, List.take_append_of_le_length (by omega)]
        simp [tapeB]
      · rw [ew]; exact .inr (by simp)
      · rw [e, List.length_append] at h; omega
/-- What is recovered of a tape of which so many bytes are left. -/
theorem rec_tape {m : Nat} {cs : List Cm} (hh : HistOk m cs) {n : Nat} (hn : n ≤ (tapeB cs).length) : recT ((tapeB cs).take n) = (cs.take (wholeN cs n), (tapeB (cs.take (wholeN cs n))).length) := by
  obtain ⟨t, h1, h2, _, _⟩ := take_tape cs n 0 hh.ok hn
  unfold recT
  rw [h1]
  refine rec_of _ _ 0 t (fun c hc => hh.ok c (List.mem_of_mem_take hc)) (fun i hi => ?_) (h2 _) (Nat.le_refl _)
  rw [List.getElem_take]
  have := hh.turn i (by rw [List.length_take] at hi; omega)
  omega
theorem rec_all {m : Nat} {cs : List Cm} (hh : HistOk m cs) : recT (tapeB cs) = (cs, (tapeB cs).length) := by
  have := rec_of cs _ 0 [] hh.ok (fun i hi => by have := hh.turn i hi; omega) (by unfold chunkR; rw [if_pos (by simp)]) (Nat.le_refl _)
  rw [List.append_nil] at this
  exact this
theorem whole_all {cs : List Cm} (hok : ∀ c ∈ cs, CmOk c) : wholeN cs (tapeB cs).length = cs.length := by
  obtain ⟨_, _, _, _, h⟩ := take_tape cs (tapeB cs).length 0 hok (Nat.le_refl _)
  exact h rfl
theorem tapeB_len_le {cs : List Cm} (hok : ∀ c ∈ cs, CmOk c) : (tapeB cs).length ≤ 600 * cs.length := by
  induction cs with
  | nil => simp [tapeB]
  | cons c cs ih =>
    have h3 := frameB_len (hok c (by simp))
    have hb := bodyB_len (hok c (by simp))
    have := ih (fun x hx => hok x (by simp [hx]))
    have e : tapeB (c :: cs) = frameB c ++ tapeB cs := by simp [tapeB]
    rw [e, List.length_append, List.length_cons]
    omega
theorem whole_len : ∀ (cs : List Cm) (n : Nat), (tapeB (cs.take (wholeN cs n))).length ≤ n
  | [], n => by simp [tapeB, wholeN]
  | c :: cs, n => by
    unfold wholeN
    split
    · rename_i h
      have := whole_len cs (n - (frameB c).length)
      rw [Nat.add_comm, List.take_succ_cons, show tapeB (c :: cs.take (wholeN cs (n - (frameB c).length))) = frameB c ++ tapeB (cs.take (wholeN cs (n - (frameB c).length))) from by simp [tapeB], List.length_append]
      omega
    · simp [tapeB]
/-- As many whole commits as have been synced. -/
theorem whole_ge : ∀ (cs : List Cm) (k n : Nat), k ≤ cs.length → (tapeB (cs.take k)).length ≤ n → k ≤ wholeN cs n
  | _, 0, _, _, _ => Nat.zero_le _
  | [], k + 1, _, h, _ => by simp at h
  | c :: cs, k + 1, n, hk, h => by
    rw [List.take_succ_cons, show tapeB (c :: cs.take k) = frameB c ++ tapeB (cs.take k) from by simp [tapeB], List.length_append] at h
    rw [wholeN, if_pos (by omega)]
    have := whole_ge cs k (n - (frameB c).length) (by simpa using hk) (by omega)
    omega
end Go.Proofs.YtikklmjengkliaaDoor
namespace Go.Proofs.YtikklmjengkliaaDoor
open Go.RowKit
set_option maxRecDepth 100000
set_option linter.unusedVariables false
set_option linter.unusedSimpArgs false
set_option maxHeartbeats 400000 in
theorem cloneO_spec (F : Fz) (w : World) (v : Value) (l : List UInt8) (hs : Sat w F) (hv : Bs F v l) (hm : l.length ≤ 100000) :
    Calls Tryd.prog 64 #[v] w (GivesO w F 1 ByC 5 l) := by
  obtain ⟨a, c, rfl, hlc, hcm⟩ := hv.shape
  obtain ⟨i, hi, hz0, hz1, hz2⟩ := info_parts infoU8
  have hr := hv
  unfold Bs at hr
  have hnil := Lib.run_eql_slice_nil (P := Tryd.prog) w 23 5 a l.length c 0 0 Tryd.underlying23
  cases a with
  | none =>
    have hl : l = [] := by
      obtain ⟨a', c', h1, _, _, h4, _⟩ := hr
      cases h1
      exact List.eq_nil_of_length_eq_zero (h4 rfl).1
    subst hl
    simp only [List.length_nil] at hnil
    go_enter Tryd.func64, Tryd.ntmps64
    go_wp2_with fail
    go_ret
    exact ⟨_, F, rfl, Gr.refl hs, Own.nil _ _⟩
  | some a =>
    have hown := World.ownsRow_lit (base := w.heap.size) (e := 5) (size := 1) w #[] 0 (Nat.le_refl _) (Nat.zero_le _) rfl
    have hsa := hs.alloc (.cells #[] 5)
    go_enter Tryd.func64, Tryd.ntmps64
    go_wp2_with (at_builtin; go_loud (refine wpList_append_any rfl _ _ 23 rfl w.heap.size 5 i (.int .u8 0) 1 1 Tryd.underlying23 hi hz0 hz1 hz2 rfl (by decide) rfl hown rfl hsa hr (by simp) (bv_oneCell _) (by unfold maxLen; omega) (by omega) (by simp) ?_))
    intro v1 w1 hown1 hg _
    have hb : Below w.heap.size w w1 := ((Below.refl _ _).alloc (Nat.le_refl _) _).grown hg (by simp) (fun g hg' => (hown.lt g hg').1)
    clear hg hown
    go_wp2_with fail
    go_ret
    refine ⟨_, F, rfl, Gr.of_below hs hb, ⟨l.map fun b => [bv b], ?_, allR_bytes F l, by simp⟩, fun g hg => hs.out (hown1.lt g hg).1⟩
    rw [bytes_flat]
    simpa using hown1
/-- A tape by value. -/
def TpV (F : Fz) (v : Value) (t : Tp) : Prop := ∃ a c, v = .agg #[.slice a t.data.length c, .int .i64 (t.synced : Nat)] ∧ Bs F (.slice a t.data.length c) t.data
theorem TpV.mono {F F' : Fz} {v : Value} {t : Tp} (h : TpV F v t) (hl : Le F F') : TpV F' v t := by
  obtain ⟨a, c, h1, h2⟩ := h; exact ⟨a, c, h1, h2.mono hl⟩
def GivesTp (w : World) (F : Fz) (t : Tp) (e : Ending) (w' : World) : Prop := ∃ v F', e = .returned (.tuple #[.agg #[v, .int .i64 (t.synced : Nat)], .bool true]) ∧ Gr w F w' F' ∧ Own 1 ByC 5 w.heap.size w' F' v t.data
theorem stGivesTp {P : Program} {ops : Array Oper} {Q : Exit → Act → World → Prop} {a : Act} {rest : List Oper} {o : Oper} {kf : FuncId} {vs : Array Value} {w0 w : World} {F0 F : Fz} {L : List Blk} {M : List RowP} {t : Tp} (S : St w0 F0 w F L M) (hw : Region.wanted o (yielded ops a.tmps) = true)
    (hr : (execOp a.eval o).run P w = .ok (.enter kf vs) w) (hc : Calls P kf vs w (GivesTp w F t))
    (h : ∀ v w' F', St w0 F0 w' F' L (ownP 1 ByC ByC.mono 5 w0.heap.size v t.data :: M) → Le F F' → WL P ops Q rest (a.put o.dst (.tuple #[.agg #[v, .int .i64 (t.synced : Nat)], .bool true])) w') : WL P ops Q (o :: rest) a w :=
  doC hw hr hc fun e w' ⟨v, F', he, g, ho⟩ => ⟨_, he, h v w' F' (S.addRow g ho) (g.le S.sat)⟩
structure TpOk (n : Nat) (t : Tp) : Prop where
  len : t.data.length ≤ n
  syn : t.synced ≤ t.data.length
def TpeV (t : Tp) (e : Int) (F : Fz) (u : Value) : Prop := ∃ v, u = .tuple #[v, .int .i64 e] ∧ TpV F v t
/-- What was known when the call saw more is known to one who sees less. -/
def mixF (w : World) (F G : Fz) : Fz := fun b => if b < w.heap.size then F b else G b
theorem Gr.mix {w w' : World} {F F1 G : Fz} (hl : Le F F1) (h : Gr w F1 w' G) (hs : Sat w F) : Gr w F w' (mixF w F G) := by
  refine ⟨h.below, fun b hb => by unfold mixF; rw [if_pos hb], fun b o hb => ?_⟩
  unfold mixF at hb
  split at hb
  · rename_i hlt
    exact h.sat b o (by rw [h.old b hlt]; exact hl b o hb)
  · exact h.sat b o hb
theorem ByC.mix {base E : Nat} {w w' : World} {F G : Fz} {v : Value} {l : By} (h : Own 1 ByC E base w' G v l) (hb : w.heap.size ≤ base) : Own 1 ByC E base w' (mixF w F G) v l := by
  obtain ⟨el, h1, h2, h3⟩ := h.ex
  refine ⟨⟨el, h1, h2.imp fun x p hx => hx, h3⟩, fun g hg => ?_⟩
  unfold mixF
  rw [if_neg (by have := (h.lt g hg).1; omega)]
  exact h.out g hg
def GivesSum (w : World) (F : Fz) (b : By) (e : Ending) (w' : World) : Prop := ∃ v F', e = .returned (.tuple #[v, .int .i64 0]) ∧ Gr w F w' F' ∧ Own 1 ByC 5 w.heap.size w' F' v (sumL b)
theorem GivesSum.mix {w w' : World} {F F1 : Fz} {b : By} {e : Ending} (hs : Sat w F) (hl : Le F F1) (h : GivesSum w F1 b e w') : GivesSum w F b e w' := by
  obtain ⟨v, F', he, g, ho⟩ := h
  exact ⟨v, _, he, g.mix hl hs, ByC.mix ho (Nat.le_refl _)⟩
theorem stGivesSum {P : Program} {ops : Array Oper} {Q : Exit → Act → World → Prop} {a : Act} {rest : List Oper} {o : Oper} {kf : FuncId} {vs : Array Value} {w0 w : World} {F0 F F1 : Fz} {L : List Blk} {M : List RowP} {b : By} (S : St w0 F0 w F L M) (hl : Le F F1) (hw : Region.wanted o (yielded ops a.tmps) = true)
    (hr : (execOp a.eval o).run P w = .ok (.enter kf vs) w) (hc : Calls P kf vs w (GivesSum w F1 b))
    (h : ∀ v w' F', St w0 F0 w' F' L (ownP 1 ByC ByC.mono 5 w0.heap.size v (sumL b) :: M) → Le F F' → WL P ops Q rest (a.put o.dst (.tuple #[v, .int .i64 0])) w') : WL P ops Q (o :: rest) a w :=
  doC hw hr hc fun e w' hg => by
    obtain ⟨v, F', he, g, ho⟩ := GivesSum.mix S.sat hl hg
    exact ⟨_, he, h v w' F' (S.addRow g ho) (g.le S.sat)⟩
set_option maxHeartbeats 8000000 in
theorem Sum_own (F : Fz) (w : World) (v : Value) (b : By) (hs : Sat w F) (hT : Tabs w) (hb : Bs F v b) (hn : b.length ≤ 4000) :
    Calls Tryd.prog 59 #[v] w (GivesSum w F b) := by
 obtain ⟨x, y, rfl, hc1', hc2'⟩ := hb.shape
 unfold maxLen at hc2'
 have S := St.start hs
 go_enter Tryd.func59, Tryd.ntmps59
 refine wp_seq_k (fun K1 hK1 => region_wl ?_)
 refine do_ rfl (.slice none 0 0) (ex_assign _) ?_
 simp only [pS, pN, pA, pC, pZ]
 refine do_ rfl (.int .i64 0) (ex_assign _) ?_
 simp only [pS, pN, pA, pC, pZ]
 refine wl_nil (hK1 _ _ ?_)
 refine wp_seq_k (fun K2 hK2 => ?_)
 refine wp_seq_k (fun K3 hK3 => region_wl ?_)
 refine do_ rfl (.slice x b.length y) (ex_move _) ?_
 simp only [pS, pN, pA, pC, pZ]
 refine do_ rfl (.int .i64 ((b.length : Nat) : Int)) (ex_len Tryd.underlying23 rfl) ?_
 simp only [pS, pN, pA, pC, pZ]
 refine do_ rfl (.bool false) (ex_gtr (m := ((b.length : Nat) : Int)) (n := (4000 : Int)) (b := false) rfl rfl (decide_eq_false (by omega))) ?_
 simp only [pS, pN, pA, pC, pZ]
 refine wl_nil (hK3 _ _ ?_)
 refine wp_cond_false rfl ?_
 refine wp_skip ?_
 refine hK2 _ _ ?_
 refine wp_seq_k (fun K4 hK4 => region_wl ?_)
 refine do_ rfl (.slice x b.length y) (ex_move _) ?_
 simp only [pS, pN, pA, pC, pZ]
 refine stGivesO ByC.mono S rfl (ex_fn (vs := #[(.slice x b.length y)]) (map1 rfl) rfl (ent_72 _ _)) (sum_own _ _ _ b (S).sat (hT.at S.gr.below) hb (by omega)) ?_
 intro v9 w5 F7 S6 le8
 simp only [pS, pN, pA, pC, pZ]
 have S6 : St w F w5 F7 [] [ownP 1 ByC ByC.mono 5 w.heap.size v9 (sumL b)] := S6
 refine do_ rfl v9 (ex_assign _) ?_
 simp only [pS, pN, pA, pC, pZ]
 refine do_ rfl (.int .i64 0) (ex_assign _) ?_
 simp only [pS, pN, pA, pC, pZ]
 refine wl_nil (hK4 _ _ ?_)
 refine wp_ret ?_
 (try simp only [Exit.then, Exit.inBlock, ↓reduceIte, Nat.reduceEqDiff])
 refine bodyPost_ret (v := (.tuple #[v9, (.int .i64 0)])) ?_ rfl ?_
 ·exact res_tt rfl rfl rfl
 ·exact ⟨_, _, rfl, S6.gr, St.own (i := 0) S6 rfl⟩
set_option maxHeartbeats 8000000 in
theorem open_spec (F : Fz) (w : World) (v : Value) (t : Tp) (hs : Sat w F) (hv : TpV F v t) (ok : TpOk 100000 t) :
    Calls Tryd.prog 58 #[v] w (GivesTp w F t) := by
 obtain ⟨x, y, rfl, hv⟩ := hv
 have h1 := ok.len
 have h2 := ok.syn
 have S := St.start hs
 go_enter Tryd.func58, Tryd.ntmps58
 refine wp_seq_k (fun K1 hK1 => region_wl ?_)
 refine stNew S (v := fun n => .pointer (some ⟨n, 0, none⟩)) rfl (ex_box (v := (.agg #[(.slice x t.data.length y), (.int .i64 ((t.synced : Nat) : Int))])) rfl) (fun n2 w3 S4 => ?_)
 simp only [pS, pN, pA, pC, pZ]
 have S4 : St w F w3 F [⟨n2, [(.slice x t.data.length y), (.int .i64 ((t.synced : Nat) : Int))], 67⟩] [] := S4
 refine stNew S4 (v := fun n => .pointer (some ⟨n, 0, none⟩)) rfl (ex_alloc (zero_67 _)) (fun n5 w6 S7 => ?_)
 simp only [pS, pN, pA, pC, pZ]
 have S7 : St w F w6 F [⟨n5, [(.slice none 0 0), (.int .i64 0)], 67⟩, ⟨n2, [(.slice x t.data.length y), (.int .i64 ((t.synced : Nat) : Int))], 67⟩] [] := S7
 refine do_ rfl (.bool false) (ex_assign _) ?_
 simp only [pS, pN, pA, pC, pZ]
 refine wl_nil (hK1 _ _ ?_)
 refine wp_seq_k (fun K8 hK8 => ?_)
 refine wp_seq_k (fun K9 hK9 => region_wl ?_)
 refine do_ rfl (.pointer (some ⟨n2, 1, none⟩)) (ex_field (q := ⟨n2, 1, none⟩) rfl (fa_67_1 _ _)) ?_
 simp only [pS, pN, pA, pC, pZ]
 refine do_ rfl (.int .i64 ((t.synced : Nat) : Int)) (ex_load rfl (load1 (nagg_3 _) (St.cell S7 (i := 1) rfl rfl))) ?_
 simp only [pS, pN, pA, pC, pZ]
 refine do_ rfl (.bool false) (ex_lss (m := ((t.synced : Nat) : Int)) (n := (0 : Int)) (b := false) rfl rfl (decide_eq_false (by omega))) ?_
 simp only [pS, pN, pA, pC, pZ]
 refine do_ rfl (.bool false) (ex_move _) ?_
 simp only [pS, pN, pA, pC, pZ]
 refine do_ rfl (.pointer (some ⟨n2, 1, none⟩)) (ex_field (q := ⟨n2, 1, none⟩) rfl (fa_67_1 _ _)) ?_
 simp only [pS, pN, pA, pC, pZ]
 refine do_ rfl (.int .i64 ((t.synced : Nat) : Int)) (ex_load rfl (load1 (nagg_3 _) (St.cell S7 (i := 1) rfl rfl))) ?_
 simp only [pS, pN, pA, pC, pZ]
 refine do_ rfl (.pointer (some ⟨n2, 0, none⟩)) (ex_field (q := ⟨n2, 0, none⟩) rfl (fa_67_0 _ _)) ?_
 simp only [pS, pN, pA, pC, pZ]
 refine do_ rfl (.slice x t.data.length y) (ex_load rfl (load1 (nagg_23 _) (St.cell S7 (i := 1) rfl rfl))) ?_
 simp only [pS, pN, pA, pC, pZ]
 refine do_ rfl (.int .i64 ((t.data.length : Nat) : Int)) (ex_len Tryd.underlying23 rfl) ?_
 simp only [pS, pN, pA, pC, pZ]
 refine do_ rfl (.bool false) (ex_gtr (m := ((t.synced : Nat) : Int)) (n := ((t.data.length : Nat) : Int)) (b := false) rfl rfl (decide_eq_false (by omega))) ?_
 simp only [pS, pN, pA, pC, pZ]
 refine do_ rfl (.bool false) (ex_pick (b := false) rfl) ?_
 simp only [pS, pN, pA, pC, pZ]
 refine do_ rfl (.bool false) (ex_move _) ?_
 simp only [pS, pN, pA, pC, pZ]
 refine do_ rfl (.pointer (some ⟨n2, 0, none⟩)) (ex_field (q := ⟨n2, 0, none⟩) rfl (fa_67_0 _ _)) ?_
 simp only [pS, pN, pA, pC, pZ]
 refine do_ rfl (.slice x t.data.length y) (ex_load rfl (load1 (nagg_23 _) (St.cell S7 (i := 1) rfl rfl))) ?_
 simp only [pS, pN, pA, pC, pZ]
 refine do_ rfl (.int .i64 ((t.data.length : Nat) : Int)) (ex_len Tryd.underlying23 rfl) ?_
 simp only [pS, pN, pA, pC, pZ]
 refine do_ rfl (.bool false) (ex_gtr (m := ((t.data.length : Nat) : Int)) (n := (200000 : Int)) (b := false) rfl rfl (decide_eq_false (by omega))) ?_
 simp only [pS, pN, pA, pC, pZ]
 refine do_ rfl (.bool false) (ex_pick (b := false) rfl) ?_
 simp only [pS, pN, pA, pC, pZ]
 refine wl_nil (hK9 _ _ ?_)
 refine wp_cond_false rfl ?_
 refine wp_skip ?_
 refine hK8 _ _ ?_
 refine wp_seq_k (fun K10 hK10 => ?_)
 obtain ⟨S11, le12, hc13⟩ := St.freezeBlk S7 (i := 1) rfl
 generalize addF F w6 n2 = F14 at *
 have S11 : St w F w6 F14 [⟨n5, [(.slice none 0 0), (.int .i64 0)], 67⟩] [] := S11
 refine region_hl S11 (by kernel_rfl) (fun w16 S15 => ?_)
 refine hl_take 0 rfl (by kernel_rfl) (v := (.pointer (some ⟨n2, 0, none⟩))) (fun _ _ _ h => h) S15.sat rfl (fun w17 hs18 => ex_field (q := ⟨n2, 0, none⟩) rfl (fa_67_0 _ _)) ?_
 simp only [pS, pN, pA, pC, pZ]
 refine hl_take 1 rfl (by kernel_rfl) (v := (.slice x t.data.length y)) (fun _ _ _ h => h) S15.sat rfl (fun w19 hs20 => ex_load rfl (load1 (nagg_23 _) (St.fz (St.start hs20) (hc13 0 _ rfl)))) ?_
 simp only [pS, pN, pA, pC, pZ]
 refine hl_take 3 rfl (by kernel_rfl) (v := (.pointer (some ⟨n2, 1, none⟩))) (fun _ _ _ h => h) S15.sat rfl (fun w21 hs22 => ex_field (q := ⟨n2, 1, none⟩) rfl (fa_67_1 _ _)) ?_
 simp only [pS, pN, pA, pC, pZ]
 refine hl_take 4 rfl (by kernel_rfl) (v := (.int .i64 ((t.synced : Nat) : Int))) (fun _ _ _ h => h) S15.sat rfl (fun w23 hs24 => ex_load rfl (load1 (nagg_3 _) (St.fz (St.start hs24) (hc13 1 _ rfl)))) ?_
 simp only [pS, pN, pA, pC, pZ]
 refine hl_next 2 (by kernel_rfl) rfl ?_
 refine stGivesO ByC.mono S15 rfl (ex_fn (vs := #[(.slice x t.data.length y)]) (map1 rfl) rfl (ent_64 _ _)) (cloneO_spec _ _ _ t.data (S15).sat (hv.mono le12) (by omega)) ?_
 intro v25 w26 F28 S27 le29
 simp only [pS, pN, pA, pC, pZ]
 have S27 : St w F w26 F28 [⟨n5, [(.slice none 0 0), (.int .i64 0)], 67⟩] [ownP 1 ByC ByC.mono 5 w.heap.size v25 t.data] := S27
 obtain ⟨a30, cap31, rfl, h32, h33⟩ := (S27.own (i := 0) rfl).shape
 unfold maxLen at h33
 refine wl_nil (hl_back (Sat.le S27.sat le29) ?_)
 refine hl_take 5 rfl (by kernel_rfl) (v := (.agg #[(.slice a30 t.data.length cap31), (.int .i64 ((t.synced : Nat) : Int))])) (fun _ _ _ h => h) (Sat.le S27.sat le29) rfl (fun w34 hs35 => ex_build (ps := #[(0, (.slice a30 t.data.length cap31)), (1, (.int .i64 ((t.synced : Nat) : Int)))]) (bmap2 rfl rfl) (by kernel_rfl)) ?_
 simp only [pS, pN, pA, pC, pZ]
 refine hl_next 6 (by kernel_rfl) rfl ?_
 refine stStore (i := 0) (v := (.agg #[(.slice a30 t.data.length cap31), (.int .i64 ((t.synced : Nat) : Int))])) S27 rfl rfl rfl rfl (size_67) (allc2 rfl rfl) (Nat.le_of_ble_eq_true rfl) (fun w36 S37 => ?_)
 simp only [pS, pN, pA, pC, pZ]
 have S37 : St w F w36 F28 [⟨n5, [(.slice a30 t.data.length cap31), (.int .i64 ((t.synced : Nat) : Int))], 67⟩] [ownP 1 ByC ByC.mono 5 w.heap.size (.slice a30 t.data.length cap31) t.data] := S37
 refine wl_nil (hl_back (Sat.le S37.sat le29) ?_)
 refine hl_take 7 rfl (by kernel_rfl) (v := (.bool true)) (fun _ _ _ h => h) (Sat.le S37.sat le29) rfl (fun w38 hs39 => ex_assign _) ?_
 simp only [pS, pN, pA, pC, pZ]
 refine hl_done (by kernel_rfl) ?_
 refine hK10 _ _ ?_
 refine wp_ret ?_
 (try simp only [Exit.then, Exit.inBlock, ↓reduceIte, Nat.reduceEqDiff])
 refine bodyPost_ret (v := (.tuple #[(.agg #[(.slice a30 t.data.length cap31), (.int .i64 ((t.synced : Nat) : Int))]), (.bool true)])) ?_ rfl ?_
 ·exact res_ct rfl ⟨_, rfl, loadN (cs := [(.slice a30 t.data.length cap31), (.int .i64 ((t.synced : Nat) : Int))]) Tryd.underlying67 rfl (size_67) (St.range S37 (i := 0) rfl 0 [(.slice a30 t.data.length cap31), (.int .i64 ((t.synced : Nat) : Int))] (sub_range 0 rfl))⟩ rfl
 ·exact ⟨_, _, rfl, S37.gr, St.own (i := 0) S37 rfl⟩
set_option maxHeartbeats 8000000 in
theorem sync_spec (F : Fz) (w : World) (v : Value) (t : Tp) (hs : Sat w F) (hv : TpV F v t) (ok : TpOk 100000 t) :
    Calls Tryd.prog 31 #[v] w (Gives w F (TpeV ⟨t.data, t.data.length⟩ 0)) := by
 obtain ⟨x, y, rfl, hv⟩ := hv
 have h1 := ok.len
 have h2 := ok.syn
 have S := St.start hs
 go_enter Tryd.func31, Tryd.ntmps31
 refine wp_seq_k (fun K1 hK1 => region_wl ?_)
 refine stNew S (v := fun n => .pointer (some ⟨n, 0, none⟩)) rfl (ex_box (v := (.agg #[(.slice x t.data.length y), (.int .i64 ((t.synced : Nat) : Int))])) rfl) (fun n2 w3 S4 => ?_)
 simp only [pS, pN, pA, pC, pZ]
 have S4 : St w F w3 F [⟨n2, [(.slice x t.data.length y), (.int .i64 ((t.synced : Nat) : Int))], 67⟩] [] := S4
 refine stNew S4 (v := fun n => .pointer (some ⟨n, 0, none⟩)) rfl (ex_alloc (zero_67 _)) (fun n5 w6 S7 => ?_)
 simp only [pS, pN, pA, pC, pZ]
 have S7 : St w F w6 F [⟨n5, [(.slice none 0 0), (.int .i64 0)], 67⟩, ⟨n2, [(.slice x t.data.length y), (.int .i64 ((t.synced : Nat) : Int))], 67⟩] [] := S7
 refine do_ rfl (.int .i64 0) (ex_assign _) ?_
 simp only [pS, pN, pA, pC, pZ]
 refine wl_nil (hK1 _ _ ?_)
 refine wp_seq_k (fun K8 hK8 => region_wl ?_)
 refine do_ rfl (.agg #[(.slice x t.data.length y), (.int .i64 ((t.synced : Nat) : Int))]) (ex_load rfl (loadN (cs := [(.slice x t.data.length y), (.int .i64 ((t.synced : Nat) : Int))]) Tryd.underlying67 rfl (size_67) (St.range S7 (i := 1) rfl 0 [(.slice x t.data.length y), (.int .i64 ((t.synced : Nat) : Int))] (sub_range 0 rfl)))) ?_
 simp only [pS, pN, pA, pC, pZ]
 refine stGivesTp S7 rfl (ex_fn (vs := #[(.agg #[(.slice x t.data.length y), (.int .i64 ((t.synced : Nat) : Int))])]) (map1 rfl) rfl (ent_58 _ _)) (open_spec _ _ _ t (S7).sat ⟨_, _, rfl, hv⟩ (⟨by omega, ok.syn⟩)) ?_
 intro v9 w10 F11 S12 le13
 simp only [pS, pN, pA, pC, pZ]
 have S12 : St w F w10 F11 [⟨n5, [(.slice none 0 0), (.int .i64 0)], 67⟩, ⟨n2, [(.slice x t.data.length y), (.int .i64 ((t.synced : Nat) : Int))], 67⟩] [ownP 1 ByC ByC.mono 5 w.heap.size v9 t.data] := S12
 obtain ⟨a14, cap15, rfl, h16, h17⟩ := (S12.own (i := 0) rfl).shape
 unfold maxLen at h17
 refine do_ rfl (.tuple #[(.agg #[(.slice a14 t.data.length cap15), (.int .i64 ((t.synced : Nat) : Int))]), (.bool true)]) (ex_move _) ?_
 simp only [pS, pN, pA, pC, pZ]
 refine do_ rfl (.agg #[(.slice a14 t.data.length cap15), (.int .i64 ((t.synced : Nat) : Int))]) (ex_extract rfl rfl) ?_
 simp only [pS, pN, pA, pC, pZ]
 refine do_ rfl (.bool true) (ex_extract rfl rfl) ?_
 simp only [pS, pN, pA, pC, pZ]
 refine stNew S12 (v := fun n => .pointer (some ⟨n, 0, none⟩)) rfl (ex_alloc (zero_67 _)) (fun n18 w19 S20 => ?_)
 simp only [pS, pN, pA, pC, pZ]
 have S20 : St w F w19 F11 [⟨n18, [(.slice none 0 0), (.int .i64 0)], 67⟩, ⟨n5, [(.slice none 0 0), (.int .i64 0)], 67⟩, ⟨n2, [(.slice x t.data.length y), (.int .i64 ((t.synced : Nat) : Int))], 67⟩] [ownP 1 ByC ByC.mono 5 w.heap.size (.slice a14 t.data.length cap15) t.data] := S20
 refine stStore (i := 0) (v := (.agg #[(.slice a14 t.data.length cap15), (.int .i64 ((t.synced : Nat) : Int))])) S20 rfl rfl rfl rfl (size_67) (allc2 rfl rfl) (Nat.le_of_ble_eq_true rfl) (fun w21 S22 => ?_)
 simp only [pS, pN, pA, pC, pZ]
 have S22 : St w F w21 F11 [⟨n18, [(.slice a14 t.data.length cap15), (.int .i64 ((t.synced : Nat) : Int))], 67⟩, ⟨n5, [(.slice none 0 0), (.int .i64 0)], 67⟩, ⟨n2, [(.slice x t.data.length y), (.int .i64 ((t.synced : Nat) : Int))], 67⟩] [ownP 1 ByC ByC.mono 5 w.heap.size (.slice a14 t.data.length cap15) t.data] := S22
 refine do_ rfl (.bool true) (ex_assign _) ?_
 simp only [pS, pN, pA, pC, pZ]
 refine wl_nil (hK8 _ _ ?_)
 refine wp_seq_k (fun K23 hK23 => ?_)
 refine wp_seq_k (fun K24 hK24 => region_wl ?_)
 refine do_ rfl (.bool true) (ex_move _) ?_
 simp only [pS, pN, pA, pC, pZ]
 refine do_ rfl (.bool false) (ex_not (b := true) rfl rfl) ?_
 simp only [pS, pN, pA, pC, pZ]
 refine wl_nil (hK24 _ _ ?_)
 refine wp_cond_false rfl ?_
 refine wp_skip ?_
 refine hK23 _ _ ?_
 refine wp_seq_k (fun K25 hK25 => ?_)
 obtain ⟨F26, S27, le28, hv29⟩ := St.freeze S22 (i := 0) rfl (Nat.le_refl _)
 have S27 : St w F w21 F26 [⟨n18, [(.slice a14 t.data.length cap15), (.int .i64 ((t.synced : Nat) : Int))], 67⟩, ⟨n5, [(.slice none 0 0), (.int .i64 0)], 67⟩, ⟨n2, [(.slice x t.data.length y), (.int .i64 ((t.synced : Nat) : Int))], 67⟩] [] := S27
 have hv29 : Bys _ (.slice a14 t.data.length cap15) t.data := hv29
 have r30 := bs_of_sl hv29
 refine region_wl ?_
 refine do_ rfl (.pointer (some ⟨n18, 0, none⟩)) (ex_field (q := ⟨n18, 0, none⟩) rfl (fa_67_0 _ _)) ?_
 simp only [pS, pN, pA, pC, pZ]
 refine do_ rfl (.slice a14 t.data.length cap15) (ex_load rfl (load1 (nagg_23 _) (St.cell S27 (i := 0) rfl rfl))) ?_
 simp only [pS, pN, pA, pC, pZ]
 refine do_ rfl (.int .i64 ((t.data.length : Nat) : Int)) (ex_len Tryd.underlying23 rfl) ?_
 simp only [pS, pN, pA, pC, pZ]
 refine do_ rfl (.pointer (some ⟨n18, 1, none⟩)) (ex_field (q := ⟨n18, 1, none⟩) rfl (fa_67_1 _ _)) ?_
 simp only [pS, pN, pA, pC, pZ]
 refine stStore (i := 0) (v := (.int .i64 ((t.data.length : Nat) : Int))) S27 rfl rfl rfl rfl (size_3) (allc1 rfl) (Nat.le_of_ble_eq_true rfl) (fun w31 S32 => ?_)
 simp only [pS, pN, pA, pC, pZ]
 have S32 : St w F w31 F26 [⟨n18, [(.slice a14 t.data.length cap15), (.int .i64 ((t.data.length : Nat) : Int))], 67⟩, ⟨n5, [(.slice none 0 0), (.int .i64 0)], 67⟩, ⟨n2, [(.slice x t.data.length y), (.int .i64 ((t.synced : Nat) : Int))], 67⟩] [] := S32
 refine wl_nil (hK25 _ _ ?_)
 refine wp_seq_k (fun K33 hK33 => region_wl ?_)
 refine do_ rfl (.agg #[(.slice a14 t.data.length cap15), (.int .i64 ((t.data.length : Nat) : Int))]) (ex_load rfl (loadN (cs := [(.slice a14 t.data.length cap15), (.int .i64 ((t.data.length : Nat) : Int))]) Tryd.underlying67 rfl (size_67) (St.range S32 (i := 0) rfl 0 [(.slice a14 t.data.length cap15), (.int .i64 ((t.data.length : Nat) : Int))] (sub_range 0 rfl)))) ?_
 simp only [pS, pN, pA, pC, pZ]
 refine stStore (i := 1) (v := (.agg #[(.slice a14 t.data.length cap15), (.int .i64 ((t.data.length : Nat) : Int))])) S32 rfl rfl rfl rfl (size_67) (allc2 rfl rfl) (Nat.le_of_ble_eq_true rfl) (fun w34 S35 => ?_)
 simp only [pS, pN, pA, pC, pZ]
 have S35 : St w F w34 F26 [⟨n18, [(.slice a14 t.data.length cap15), (.int .i64 ((t.data.length : Nat) : Int))], 67⟩, ⟨n5, [(.slice a14 t.data.length cap15), (.int .i64 ((t.data.length : Nat) : Int))], 67⟩, ⟨n2, [(.slice x t.data.length y), (.int .i64 ((t.synced : Nat) : Int))], 67⟩] [] := S35
 refine do_ rfl (.int .i64 0) (ex_assign _) ?_
 simp only [pS, pN, pA, pC, pZ]
 refine wl_nil (hK33 _ _ ?_)
 refine wp_ret ?_
 (try simp only [Exit.then, Exit.inBlock, ↓reduceIte, Nat.reduceEqDiff])
 refine bodyPost_ret (v := (.tuple #[(.agg #[(.slice a14 t.data.length cap15), (.int .i64 ((t.data.length : Nat) : Int))]), (.int .i64 0)])) ?_ rfl ?_
 ·exact res_ct rfl ⟨_, rfl, loadN (cs := [(.slice a14 t.data.length cap15), (.int .i64 ((t.data.length : Nat) : Int))]) Tryd.underlying67 rfl (size_67) (St.range S35 (i := 1) rfl 0 [(.slice a14 t.data.length cap15), (.int .i64 ((t.data.length : Nat) : Int))] (sub_range 0 rfl))⟩ rfl
 ·exact ⟨_, _, rfl, S35.gr, _, rfl, _, _, rfl, r30⟩
set_option maxHeartbeats 8000000 in
theorem openBad_spec (F : Fz) (w : World) (hs : Sat w F) :
    Calls Tryd.prog 58 #[.agg #[.slice none 0 0, .int .i64 1]] w (Tells w (.tuple #[.agg #[.slice none 0 0, .int .i64 0], .bool false])) := by
 have S := St.start hs
 go_enter Tryd.func58, Tryd.ntmps58
 refine wp_seq_k (fun K1 hK1 => region_wl ?_)
 refine stNew S (v := fun n => .pointer (some ⟨n, 0, none⟩)) rfl (ex_box (v := (.agg #[(.slice none 0 0), (.int .i64 1)])) rfl) (fun n2 w3 S4 => ?_)
 simp only [pS, pN, pA, pC, pZ]
 have S4 : St w F w3 F [⟨n2, [(.slice none 0 0), (.int .i64 1)], 67⟩] [] := S4
 refine stNew S4 (v := fun n => .pointer (some ⟨n, 0, none⟩)) rfl (ex_alloc (zero_67 _)) (fun n5 w6 S7 => ?_)
 simp only [pS, pN, pA, pC, pZ]
 have S7 : St w F w6 F [⟨n5, [(.slice none 0 0), (.int .i64 0)], 67⟩, ⟨n2, [(.slice none 0 0), (.int .i64 1)], 67⟩] [] := S7
 refine do_ rfl (.bool false) (ex_assign _) ?_
 simp only [pS, pN, pA, pC, pZ]
 refine wl_nil (hK1 _ _ ?_)
 refine wp_seq_k (fun K8 hK8 => ?_)
 refine wp_seq_k (fun K9 hK9 => region_wl ?_)
 refine do_ rfl (.pointer (some ⟨n2, 1, none⟩)) (ex_field (q := ⟨n2, 1, none⟩) rfl (fa_67_1 _ _)) ?_
 simp only [pS, pN, pA, pC, pZ]
 refine do_ rfl (.int .i64 1) (ex_load rfl (load1 (nagg_3 _) (St.cell S7 (i := 1) rfl rfl))) ?_
 simp only [pS, pN, pA, pC, pZ]
 refine do_ rfl (.bool false) (ex_lss (b := false) rfl rfl (by decide)) ?_
 simp only [pS, pN, pA, pC, pZ]
 refine do_ rfl (.bool false) (ex_move _) ?_
 simp only [pS, pN, pA, pC, pZ]
 refine do_ rfl (.pointer (some ⟨n2, 1, none⟩)) (ex_field (q := ⟨n2, 1, none⟩) rfl (fa_67_1 _ _)) ?_
 simp only [pS, pN, pA, pC, pZ]
 refine do_ rfl (.int .i64 1) (ex_load rfl (load1 (nagg_3 _) (St.cell S7 (i := 1) rfl rfl))) ?_
 simp only [pS, pN, pA, pC, pZ]
 refine do_ rfl (.pointer (some ⟨n2, 0, none⟩)) (ex_field (q := ⟨n2, 0, none⟩) rfl (fa_67_0 _ _)) ?_
 simp only [pS, pN, pA, pC, pZ]
 refine do_ rfl (.slice none 0 0) (ex_load rfl (load1 (nagg_23 _) (St.cell S7 (i := 1) rfl rfl))) ?_
 simp only [pS, pN, pA, pC, pZ]
 refine do_ rfl (.int .i64 0) (ex_len Tryd.underlying23 rfl) ?_
 simp only [pS, pN, pA, pC, pZ]
 refine do_ rfl (.bool true) (ex_gtr (b := true) rfl rfl (by decide)) ?_
 simp only [pS, pN, pA, pC, pZ]
 refine do_ rfl (.bool true) (ex_pick (b := false) rfl) ?_
 simp only [pS, pN, pA, pC, pZ]
 refine do_ rfl (.bool true) (ex_move _) ?_
 simp only [pS, pN, pA, pC, pZ]
 refine doN (wanted_no rfl rfl rfl (c := true) rfl (by decide)) ?_
 simp only [pS, pN, pA, pC, pZ]
 refine doN (wanted_no rfl rfl rfl (c := true) rfl (by decide)) ?_
 simp only [pS, pN, pA, pC, pZ]
 refine doN (wanted_no rfl rfl rfl (c := true) rfl (by decide)) ?_
 simp only [pS, pN, pA, pC, pZ]
 refine doN (wanted_no rfl rfl rfl (c := true) rfl (by decide)) ?_
 simp only [pS, pN, pA, pC, pZ]
 refine do_ rfl (.bool true) (ex_pick (b := true) rfl) ?_
 simp only [pS, pN, pA, pC, pZ]
 refine wl_nil (hK9 _ _ ?_)
 refine wp_cond_true rfl ?_
 refine wp_seq_k (fun K10 hK10 => region_wl ?_)
 refine do_ rfl (.agg #[(.slice none 0 0), (.int .i64 0)]) (ex_build (ps := #[]) (bmap0) (by kernel_rfl)) ?_
 simp only [pS, pN, pA, pC, pZ]
 refine stStore (i := 0) (v := (.agg #[(.slice none 0 0), (.int .i64 0)])) S7 rfl rfl rfl rfl (size_67) (allc2 rfl rfl) (Nat.le_of_ble_eq_true rfl) (fun w11 S12 => ?_)
 simp only [pS, pN, pA, pC, pZ]
 have S12 : St w F w11 F [⟨n5, [(.slice none 0 0), (.int .i64 0)], 67⟩, ⟨n2, [(.slice none 0 0), (.int .i64 1)], 67⟩] [] := S12
 refine do_ rfl (.bool false) (ex_assign _) ?_
 simp only [pS, pN, pA, pC, pZ]
 refine wl_nil (hK10 _ _ ?_)
 refine wp_ret ?_
 (try simp only [Exit.then, Exit.inBlock, ↓reduceIte, Nat.reduceEqDiff])
 refine bodyPost_ret (v := (.tuple #[(.agg #[(.slice none 0 0), (.int .i64 0)]), (.bool false)])) ?_ rfl ?_
 ·exact res_ct rfl ⟨_, rfl, loadN (cs := [(.slice none 0 0), (.int .i64 0)]) Tryd.underlying67 rfl (size_67) (St.range S12 (i := 0) rfl 0 [(.slice none 0 0), (.int .i64 0)] (sub_range 0 rfl))⟩ rfl
 ·exact ⟨rfl, S12.gr.below⟩
set_option maxHeartbeats 8000000 in
theorem syncBad_spec (F : Fz) (w : World) (hs : Sat w F) :
    Calls Tryd.prog 31 #[.agg #[.slice none 0 0, .int .i64 1]] w (Tells w (.tuple #[.agg #[.slice none 0 0, .int .i64 0], .int .i64 6])) := by
 have S := St.start hs
 go_enter Tryd.func31, Tryd.ntmps31
 refine wp_seq_k (fun K1 hK1 => region_wl ?_)
 refine stNew S (v := fun n => .pointer (some ⟨n, 0, none⟩)) rfl (ex_box (v := (.agg #[(.slice none 0 0), (.int .i64 1)])) rfl) (fun n2 w3 S4 => ?_)
 simp only [pS, pN, pA, pC, pZ]
 have S4 : St w F w3 F [⟨n2, [(.slice none 0 0), (.int .i64 1)], 67⟩] [] := S4
 refine stNew S4 (v := fun n => .pointer (some ⟨n, 0, none⟩)) rfl (ex_alloc (zero_67 _)) (fun n5 w6 S7 => ?_)
 simp only [pS, pN, pA, pC, pZ]
 have S7 : St w F w6 F [⟨n5, [(.slice none 0 0), (.int .i64 0)], 67⟩, ⟨n2, [(.slice none 0 0), (.int .i64 1)], 67⟩] [] := S7
 refine do_ rfl (.int .i64 0) (ex_assign _) ?_
 simp only [pS, pN, pA, pC, pZ]
 refine wl_nil (hK1 _ _ ?_)
 refine wp_seq_k (fun K8 hK8 => region_wl ?_)
 refine do_ rfl (.agg #[(.slice none 0 0), (.int .i64 1)]) (ex_load rfl (loadN (cs := [(.slice none 0 0), (.int .i64 1)]) Tryd.underlying67 rfl (size_67) (St.range S7 (i := 1) rfl 0 [(.slice none 0 0), (.int .i64 1)] (sub_range 0 rfl)))) ?_
 simp only [pS, pN, pA, pC, pZ]
 refine stTells (v := (.tuple #[(.agg #[(.slice none 0 0), (.int .i64 0)]), (.bool false)])) S7 rfl (ex_fn (vs := #[(.agg #[(.slice none 0 0), (.int .i64 1)])]) (map1 rfl) rfl (ent_58 _ _)) (openBad_spec _ _ (S7).sat) (fun w9 S10 => ?_)
 simp only [pS, pN, pA, pC, pZ]
 refine do_ rfl (.tuple #[(.agg #[(.slice none 0 0), (.int .i64 0)]), (.bool false)]) (ex_move _) ?_
 simp only [pS, pN, pA, pC, pZ]
 refine do_ rfl (.agg #[(.slice none 0 0), (.int .i64 0)]) (ex_extract rfl rfl) ?_
 simp only [pS, pN, pA, pC, pZ]
 refine do_ rfl (.bool false) (ex_extract rfl rfl) ?_
 simp only [pS, pN, pA, pC, pZ]
 refine stNew S10 (v := fun n => .pointer (some ⟨n, 0, none⟩)) rfl (ex_alloc (zero_67 _)) (fun n11 w12 S13 => ?_)
 simp only [pS, pN, pA, pC, pZ]
 have S13 : St w F w12 F [⟨n11, [(.slice none 0 0), (.int .i64 0)], 67⟩, ⟨n5, [(.slice none 0 0), (.int .i64 0)], 67⟩, ⟨n2, [(.slice none 0 0), (.int .i64 1)], 67⟩] [] := S13
 refine stStore (i := 0) (v := (.agg #[(.slice none 0 0), (.int .i64 0)])) S13 rfl rfl rfl rfl (size_67) (allc2 rfl rfl) (Nat.le_of_ble_eq_true rfl) (fun w14 S15 => ?_)
 simp only [pS, pN, pA, pC, pZ]
 have S15 : St w F w14 F [⟨n11, [(.slice none 0 0), (.int .i64 0)], 67⟩, ⟨n5, [(.slice none 0 0), (.int .i64 0)], 67⟩, ⟨n2, [(.slice none 0 0), (.int .i64 1)], 67⟩] [] := S15
 refine do_ rfl (.bool false) (ex_assign _) ?_
 simp only [pS, pN, pA, pC, pZ]
 refine wl_nil (hK8 _ _ ?_)
 refine wp_seq_k (fun K16 hK16 => ?_)
 refine wp_seq_k (fun K17 hK17 => region_wl ?_)
 refine do_ rfl (.bool false) (ex_move _) ?_
 simp only [pS, pN, pA, pC, pZ]
 refine do_ rfl (.bool true) (ex_not (b := false) rfl rfl) ?_
 simp only [pS, pN, pA, pC, pZ]
 refine wl_nil (hK17 _ _ ?_)
 refine wp_cond_true rfl ?_
 refine wp_seq_k (fun K18 hK18 => region_wl ?_)
 refine do_ rfl (.agg #[(.slice none 0 0), (.int .i64 0)]) (ex_build (ps := #[]) (bmap0) (by kernel_rfl)) ?_
 simp only [pS, pN, pA, pC, pZ]
 refine stStore (i := 1) (v := (.agg #[(.slice none 0 0), (.int .i64 0)])) S15 rfl rfl rfl rfl (size_67) (allc2 rfl rfl) (Nat.le_of_ble_eq_true rfl) (fun w19 S20 => ?_)
 simp only [pS, pN, pA, pC, pZ]
 have S20 : St w F w19 F [⟨n11, [(.slice none 0 0), (.int .i64 0)], 67⟩, ⟨n5, [(.slice none 0 0), (.int .i64 0)], 67⟩, ⟨n2, [(.slice none 0 0), (.int .i64 1)], 67⟩] [] := S20
 refine do_ rfl (.int .i64 6) (ex_assign _) ?_
 simp only [pS, pN, pA, pC, pZ]
 refine wl_nil (hK18 _ _ ?_)
 refine wp_ret ?_
 (try simp only [Exit.then, Exit.inBlock, ↓reduceIte, Nat.reduceEqDiff])
 refine bodyPost_ret (v := (.tuple #[(.agg #[(.slice none 0 0), (.int .i64 0)]), (.int .i64 6)])) ?_ rfl ?_
 ·exact res_ct rfl ⟨_, rfl, loadN (cs := [(.slice none 0 0), (.int .i64 0)]) Tryd.underlying67 rfl (size_67) (St.range S20 (i := 1) rfl 0 [(.slice none 0 0), (.int .i64 0)] (sub_range 0 rfl))⟩ rfl
 ·exact ⟨rfl, S20.gr.below⟩
def crashN (t : Tp) (k : Nat) : Nat := t.synced + min k (t.data.length - t.synced)
set_option maxHeartbeats 8000000 in
theorem crash_spec (F : Fz) (w : World) (v : Value) (t : Tp) (k : Nat) (hs : Sat w F) (hv : TpV F v t) (ok : TpOk 100000 t) (hk : k ≤ 100000) :
    Calls Tryd.prog 35 #[v, .int .i64 (k : Nat)] w (Gives w F (TpeV ⟨t.data.take (crashN t k), crashN t k⟩ 0)) := by
 obtain ⟨x, y, rfl, hv⟩ := hv
 have h1 := ok.len
 have h2 := ok.syn
 have S := St.start hs
 go_enter Tryd.func35, Tryd.ntmps35
 refine wp_seq_k (fun K1 hK1 => region_wl ?_)
 refine stNew S (v := fun n => .pointer (some ⟨n, 0, none⟩)) rfl (ex_box (v := (.agg #[(.slice x t.data.length y), (.int .i64 ((t.synced : Nat) : Int))])) rfl) (fun n2 w3 S4 => ?_)
 simp only [pS, pN, pA, pC, pZ]
 have S4 : St w F w3 F [⟨n2, [(.slice x t.data.length y), (.int .i64 ((t.synced : Nat) : Int))], 67⟩] [] := S4
 refine stNew S4 (v := fun n => .pointer (some ⟨n, 0, none⟩)) rfl (ex_alloc (zero_67 _)) (fun n5 w6 S7 => ?_)
 simp only [pS, pN, pA, pC, pZ]
 have S7 : St w F w6 F [⟨n5, [(.slice none 0 0), (.int .i64 0)], 67⟩, ⟨n2, [(.slice x t.data.length y), (.int .i64 ((t.synced : Nat) : Int))], 67⟩] [] := S7
 refine do_ rfl (.int .i64 0) (ex_assign _) ?_
 simp only [pS, pN, pA, pC, pZ]
 refine wl_nil (hK1 _ _ ?_)
 refine wp_seq_k (fun K8 hK8 => region_wl ?_)
 refine do_ rfl (.agg #[(.slice x t.data.length y), (.int .i64 ((t.synced : Nat) : Int))]) (ex_load rfl (loadN (cs := [(.slice x t.data.length y), (.int .i64 ((t.synced : Nat) : Int))]) Tryd.underlying67 rfl (size_67) (St.range S7 (i := 1) rfl 0 [(.slice x t.data.length y), (.int .i64 ((t.synced : Nat) : Int))] (sub_range 0 rfl)))) ?_
 simp only [pS, pN, pA, pC, pZ]
 refine stGivesTp S7 rfl (ex_fn (vs := #[(.agg #[(.slice x t.data.length y), (.int .i64 ((t.synced : Nat) : Int))])]) (map1 rfl) rfl (ent_58 _ _)) (open_spec _ _ _ t (S7).sat ⟨_, _, rfl, hv⟩ (⟨by omega, ok.syn⟩)) ?_
 intro v9 w10 F11 S12 le13
 simp only [pS, pN, pA, pC, pZ]
 have S12 : St w F w10 F11 [⟨n5, [(.slice none 0 0), (.int .i64 0)], 67⟩, ⟨n2, [(.slice x t.data.length y), (.int .i64 ((t.synced : Nat) : Int))], 67⟩] [ownP 1 ByC ByC.mono 5 w.heap.size v9 t.data] := S12
 obtain ⟨a14, cap15, rfl, h16, h17⟩ := (S12.own (i := 0) rfl).shape
 unfold maxLen at h17
 refine do_ rfl (.tuple #[(.agg #[(.slice a14 t.data.length cap15), (.int .i64 ((t.synced : Nat) : Int))]), (.bool true)]) (ex_move _) ?_
 simp only [pS, pN, pA, pC, pZ]
 refine do_ rfl (.agg #[(.slice a14 t.data.length cap15), (.int .i64 ((t.synced : Nat) : Int))]) (ex_extract rfl rfl) ?_
 simp only [pS, pN, pA, pC, pZ]
 refine do_ rfl (.bool true) (ex_extract rfl rfl) ?_
 simp only [pS, pN, pA, pC, pZ]
 refine stNew S12 (v := fun n => .pointer (some ⟨n, 0, none⟩)) rfl (ex_alloc (zero_67 _)) (fun n18 w19 S20 => ?_)
 simp only [pS, pN, pA, pC, pZ]
 have S20 : St w F w19 F11 [⟨n18, [(.slice none 0 0), (.int .i64 0)], 67⟩, ⟨n5, [(.slice none 0 0), (.int .i64 0)], 67⟩, ⟨n2, [(.slice x t.data.length y), (.int .i64 ((t.synced : Nat) : Int))], 67⟩] [ownP 1 ByC ByC.mono 5 w.heap.size (.slice a14 t.data.length cap15) t.data] := S20
 refine stStore (i := 0) (v := (.agg #[(.slice a14 t.data.length cap15), (.int .i64 ((t.synced : Nat) : Int))])) S20 rfl rfl rfl rfl (size_67) (allc2 rfl rfl) (Nat.le_of_ble_eq_true rfl) (fun w21 S22 => ?_)
 simp only [pS, pN, pA, pC, pZ]
 have S22 : St w F w21 F11 [⟨n18, [(.slice a14 t.data.length cap15), (.int .i64 ((t.synced : Nat) : Int))], 67⟩, ⟨n5, [(.slice none 0 0), (.int .i64 0)], 67⟩, ⟨n2, [(.slice x t.data.length y), (.int .i64 ((t.synced : Nat) : Int))], 67⟩] [ownP 1 ByC ByC.mono 5 w.heap.size (.slice a14 t.data.length cap15) t.data] := S22
 refine do_ rfl (.bool true) (ex_assign _) ?_
 simp only [pS, pN, pA, pC, pZ]
 refine wl_nil (hK8 _ _ ?_)
 refine wp_seq_k (fun K23 hK23 => ?_)
 refine wp_block ?_
 refine wp_seq_k (fun K24 hK24 => region_wl ?_)
 refine do_ rfl (.bool true) (ex_move _) ?_
 simp only [pS, pN, pA, pC, pZ]
 refine do_ rfl (.bool false) (ex_not (b := true) rfl rfl) ?_
 simp only [pS, pN, pA, pC, pZ]
 refine do_ rfl (.bool false) (ex_assign _) ?_
 simp only [pS, pN, pA, pC, pZ]
 refine wl_nil (hK24 _ _ ?_)
 refine wp_cond_false rfl ?_
 refine wp_seq_k (fun K25 hK25 => region_wl ?_)
 refine do_ rfl (.int .i64 ((k : Nat) : Int)) (ex_move _) ?_
 simp only [pS, pN, pA, pC, pZ]
 refine do_ rfl (.bool false) (ex_lss (m := ((k : Nat) : Int)) (n := (0 : Int)) (b := false) rfl rfl (decide_eq_false (by omega))) ?_
 simp only [pS, pN, pA, pC, pZ]
 refine do_ rfl (.bool false) (ex_assign _) ?_
 simp only [pS, pN, pA, pC, pZ]
 refine wl_nil (hK25 _ _ ?_)
 refine wp_cond_false rfl ?_
 refine wp_skip ?_
 refine hK23 _ _ ?_
 refine wp_seq_k (fun K26 hK26 => ?_)
 obtain ⟨F27, S28, le29, hv30⟩ := St.freeze S22 (i := 0) rfl (Nat.le_refl _)
 have S28 : St w F w21 F27 [⟨n18, [(.slice a14 t.data.length cap15), (.int .i64 ((t.synced : Nat) : Int))], 67⟩, ⟨n5, [(.slice none 0 0), (.int .i64 0)], 67⟩, ⟨n2, [(.slice x t.data.length y), (.int .i64 ((t.synced : Nat) : Int))], 67⟩] [] := S28
 have hv30 : Bys _ (.slice a14 t.data.length cap15) t.data := hv30
 have r31 := bs_of_sl hv30
 refine region_wl ?_
 refine do_ rfl (.pointer (some ⟨n18, 1, none⟩)) (ex_field (q := ⟨n18, 1, none⟩) rfl (fa_67_1 _ _)) ?_
 simp only [pS, pN, pA, pC, pZ]
 refine do_ rfl (.int .i64 ((t.synced : Nat) : Int)) (ex_load rfl (load1 (nagg_3 _) (St.cell S28 (i := 0) rfl rfl))) ?_
 simp only [pS, pN, pA, pC, pZ]
 refine do_ rfl (.int .i64 ((k : Nat) : Int)) (ex_move _) ?_
 simp only [pS, pN, pA, pC, pZ]
 refine do_ rfl (.pointer (some ⟨n18, 0, none⟩)) (ex_field (q := ⟨n18, 0, none⟩) rfl (fa_67_0 _ _)) ?_
 simp only [pS, pN, pA, pC, pZ]
 refine do_ rfl (.slice a14 t.data.length cap15) (ex_load rfl (load1 (nagg_23 _) (St.cell S28 (i := 0) rfl rfl))) ?_
 simp only [pS, pN, pA, pC, pZ]
 refine do_ rfl (.int .i64 ((t.data.length : Nat) : Int)) (ex_len Tryd.underlying23 rfl) ?_
 simp only [pS, pN, pA, pC, pZ]
 refine do_ rfl (.pointer (some ⟨n18, 1, none⟩)) (ex_field (q := ⟨n18, 1, none⟩) rfl (fa_67_1 _ _)) ?_
 simp only [pS, pN, pA, pC, pZ]
 refine do_ rfl (.int .i64 ((t.synced : Nat) : Int)) (ex_load rfl (load1 (nagg_3 _) (St.cell S28 (i := 0) rfl rfl))) ?_
 simp only [pS, pN, pA, pC, pZ]
 refine do_ rfl (.int .i64 (((t.data.length - t.synced) : Nat) : Int)) (ex_sub (m := ((t.data.length : Nat) : Int)) (n := ((t.synced : Nat) : Int)) (r := (((t.data.length - t.synced) : Nat) : Int)) rfl rfl (by omega) (by omega) (by omega)) ?_
 simp only [pS, pN, pA, pC, pZ]
 refine do_ rfl (.int .i64 (((min k (t.data.length - t.synced)) : Nat) : Int)) (ex_min (m := ((k : Nat) : Int)) (n := (((t.data.length - t.synced) : Nat) : Int)) (r := (((min k (t.data.length - t.synced)) : Nat) : Int)) rfl rfl (by omega)) ?_
 simp only [pS, pN, pA, pC, pZ]
 refine do_ rfl (.int .i64 (((t.synced + (min k (t.data.length - t.synced))) : Nat) : Int)) (ex_add (m := ((t.synced : Nat) : Int)) (n := (((min k (t.data.length - t.synced)) : Nat) : Int)) (r := (((t.synced + (min k (t.data.length - t.synced))) : Nat) : Int)) rfl rfl (by omega) (by omega) (by omega)) ?_
 simp only [pS, pN, pA, pC, pZ]
 refine do_ rfl (.int .i64 (((t.synced + (min k (t.data.length - t.synced))) : Nat) : Int)) (ex_assign _) ?_
 simp only [pS, pN, pA, pC, pZ]
 refine wl_nil (hK26 _ _ ?_)
 refine wp_seq_k (fun K32 hK32 => region_wl ?_)
 refine do_ rfl (.pointer (some ⟨n18, 0, none⟩)) (ex_field (q := ⟨n18, 0, none⟩) rfl (fa_67_0 _ _)) ?_
 simp only [pS, pN, pA, pC, pZ]
 refine do_ rfl (.slice a14 t.data.length cap15) (ex_load rfl (load1 (nagg_23 _) (St.cell S28 (i := 0) rfl rfl))) ?_
 simp only [pS, pN, pA, pC, pZ]
 refine do_ rfl (.int .i64 (((t.synced + (min k (t.data.length - t.synced))) : Nat) : Int)) (ex_move _) ?_
 simp only [pS, pN, pA, pC, pZ]
 refine do_ rfl (.int .i64 (((t.synced + (min k (t.data.length - t.synced))) : Nat) : Int)) (ex_move _) ?_
 simp only [pS, pN, pA, pC, pZ]
 have r33 : Bs _ (.slice a14 (t.synced + (min k (t.data.length - t.synced))) (t.synced + (min k (t.data.length - t.synced)))) (t.data.take (t.synced + (min k (t.data.length - t.synced)))) := Bs.cut r31 (by omega)
 refine do_ rfl (.slice a14 (t.synced + (min k (t.data.length - t.synced))) (t.synced + (min k (t.data.length - t.synced)))) (ex_slice3_0 (h := (t.synced + (min k (t.data.length - t.synced)))) (m := (t.synced + (min k (t.data.length - t.synced)))) (sz := 1) Tryd.underlying23 rfl (sizeof_5 _) rfl rfl (by omega) (by omega) rfl) ?_
 simp only [pS, pN, pA, pC, pZ]
 refine do_ rfl (.int .i64 (((t.synced + (min k (t.data.length - t.synced))) : Nat) : Int)) (ex_move _) ?_
 simp only [pS, pN, pA, pC, pZ]
 refine do_ rfl (.agg #[(.slice a14 (t.synced + (min k (t.data.length - t.synced))) (t.synced + (min k (t.data.length - t.synced)))), (.int .i64 (((t.synced + (min k (t.data.length - t.synced))) : Nat) : Int))]) (ex_build (ps := #[(0, (.slice a14 (t.synced + (min k (t.data.length - t.synced))) (t.synced + (min k (t.data.length - t.synced))))), (1, (.int .i64 (((t.synced + (min k (t.data.length - t.synced))) : Nat) : Int)))]) (bmap2 rfl rfl) (by kernel_rfl)) ?_
 simp only [pS, pN, pA, pC, pZ]
 refine stStore (i := 1) (v := (.agg #[(.slice a14 (t.synced + (min k (t.data.length - t.synced))) (t.synced + (min k (t.data.length - t.synced)))), (.int .i64 (((t.synced + (min k (t.data.length - t.synced))) : Nat) : Int))])) S28 rfl rfl rfl rfl (size_67) (allc2 rfl rfl) (Nat.le_of_ble_eq_true rfl) (fun w34 S35 => ?_)
 simp only [pS, pN, pA, pC, pZ]
 have S35 : St w F w34 F27 [⟨n18, [(.slice a14 t.data.length cap15), (.int .i64 ((t.synced : Nat) : Int))], 67⟩, ⟨n5, [(.slice a14 (t.synced + (min k (t.data.length - t.synced))) (t.synced + (min k (t.data.length - t.synced)))), (.int .i64 (((t.synced + (min k (t.data.length - t.synced))) : Nat) : Int))], 67⟩, ⟨n2, [(.slice x t.data.length y), (.int .i64 ((t.synced : Nat) : Int))], 67⟩] [] := S35
 refine do_ rfl (.int .i64 0) (ex_assign _) ?_
 simp only [pS, pN, pA, pC, pZ]
 refine wl_nil (hK32 _ _ ?_)
 refine wp_ret ?_
 (try simp only [Exit.then, Exit.inBlock, ↓reduceIte, Nat.reduceEqDiff])
 refine bodyPost_ret (v := (.tuple #[(.agg #[(.slice a14 (t.synced + (min k (t.data.length - t.synced))) (t.synced + (min k (t.data.length - t.synced)))), (.int .i64 (((t.synced + (min k (t.data.length - t.synced))) : Nat) : Int))]), (.int .i64 0)])) ?_ rfl ?_
 ·exact res_ct rfl ⟨_, rfl, loadN (cs := [(.slice a14 (t.synced + (min k (t.data.length - t.synced))) (t.synced + (min k (t.data.length - t.synced)))), (.int .i64 (((t.synced + (min k (t.data.length - t.synced))) : Nat) : Int))]) Tryd.underlying67 rfl (size_67) (St.range S35 (i := 1) rfl 0 [(.slice a14 (t.synced + (min k (t.data.length - t.synced))) (t.synced + (min k (t.data.length - t.synced)))), (.int .i64 (((t.synced + (min k (t.data.length - t.synced))) : Nat) : Int))] (sub_range 0 rfl))⟩ rfl
 ·exact ⟨_, _, rfl, S35.gr, _, rfl, _, _, by rw [List.length_take, Nat.min_eq_left (show crashN t k ≤ t.data.length by unfold crashN; omega)]; rfl, by rw [List.length_take, Nat.min_eq_left (show crashN t k ≤ t.data.length by unfold crashN; omega)]; exact r33⟩
end Go.Proofs.YtikklmjengkliaaDoor
namespace Go.Proofs.YtikklmjengkliaaDoor
open Go.RowKit
set_option maxRecDepth 100000
set_option linter.unusedVariables false
set_option linter.unusedSimpArgs false
set_option maxHeartbeats 8000000 in
theorem append_spec (F : Fz) (w : World) (v u : Value) (t : Tp) (m : Cm) (hs : Sat w F) (hT : Tabs w) (hv : TpV F v t) (hc : CmV F u m) (ok : TpOk 90000 t) (hm : CmOk m) :
    Calls Tryd.prog 34 #[v, u] w (Gives w F (TpeV ⟨t.data ++ frameB m, t.synced⟩ 0)) := by
 obtain ⟨x, y, rfl, hv⟩ := hv
 have h1' := ok.len
 have h2' := ok.syn
 obtain ⟨x1, y1, rfl, h1⟩ := hc
 obtain ⟨_, _, e1, q2, q3⟩ := Sl.shape h1
 injection e1 with _ _ e1
 subst e1
 unfold maxLen at q3
 obtain ⟨i5, hi5, hz5, hs5, hb5⟩ := info_parts infoU8
 have S := St.start hs
 go_enter Tryd.func34, Tryd.ntmps34
 refine wp_seq_k (fun K1 hK1 => region_wl ?_)
 refine stNew S (v := fun n => .pointer (some ⟨n, 0, none⟩)) rfl (ex_box (v := (.agg #[(.slice x t.data.length y), (.int .i64 ((t.synced : Nat) : Int))])) rfl) (fun n2 w3 S4 => ?_)
 simp only [pS, pN, pA, pC, pZ]
 have S4 : St w F w3 F [⟨n2, [(.slice x t.data.length y), (.int .i64 ((t.synced : Nat) : Int))], 67⟩] [] := S4
 refine stNew S4 (v := fun n => .pointer (some ⟨n, 0, none⟩)) rfl (ex_box (v := (.agg #[(.int .i64 ((m.turn : Nat) : Int)), (.slice x1 m.writes.length y1)])) rfl) (fun n5 w6 S7 => ?_)
 simp only [pS, pN, pA, pC, pZ]
 have S7 : St w F w6 F [⟨n5, [(.int .i64 ((m.turn : Nat) : Int)), (.slice x1 m.writes.length y1)], 72⟩, ⟨n2, [(.slice x t.data.length y), (.int .i64 ((t.synced : Nat) : Int))], 67⟩] [] := S7
 refine stNew S7 (v := fun n => .pointer (some ⟨n, 0, none⟩)) rfl (ex_alloc (zero_67 _)) (fun n8 w9 S10 => ?_)
 simp only [pS, pN, pA, pC, pZ]
 have S10 : St w F w9 F [⟨n8, [(.slice none 0 0), (.int .i64 0)], 67⟩, ⟨n5, [(.int .i64 ((m.turn : Nat) : Int)), (.slice x1 m.writes.length y1)], 72⟩, ⟨n2, [(.slice x t.data.length y), (.int .i64 ((t.synced : Nat) : Int))], 67⟩] [] := S10
 refine do_ rfl (.int .i64 0) (ex_assign _) ?_
 simp only [pS, pN, pA, pC, pZ]
 refine wl_nil (hK1 _ _ ?_)
 refine wp_seq_k (fun K11 hK11 => region_wl ?_)
 refine do_ rfl (.agg #[(.slice x t.data.length y), (.int .i64 ((t.synced : Nat) : Int))]) (ex_load rfl (loadN (cs := [(.slice x t.data.length y), (.int .i64 ((t.synced : Nat) : Int))]) Tryd.underlying67 rfl (size_67) (St.range S10 (i := 2) rfl 0 [(.slice x t.data.length y), (.int .i64 ((t.synced : Nat) : Int))] (sub_range 0 rfl)))) ?_
 simp only [pS, pN, pA, pC, pZ]
 refine stGivesTp S10 rfl (ex_fn (vs := #[(.agg #[(.slice x t.data.length y), (.int .i64 ((t.synced : Nat) : Int))])]) (map1 rfl) rfl (ent_58 _ _)) (open_spec _ _ _ t (S10).sat ⟨_, _, rfl, hv⟩ (⟨by omega, ok.syn⟩)) ?_
 intro v12 w13 F14 S15 le16
 simp only [pS, pN, pA, pC, pZ]
 have S15 : St w F w13 F14 [⟨n8, [(.slice none 0 0), (.int .i64 0)], 67⟩, ⟨n5, [(.int .i64 ((m.turn : Nat) : Int)), (.slice x1 m.writes.length y1)], 72⟩, ⟨n2, [(.slice x t.data.length y), (.int .i64 ((t.synced : Nat) : Int))], 67⟩] [ownP 1 ByC ByC.mono 5 w.heap.size v12 t.data] := S15
 obtain ⟨a17, cap18, rfl, h19, h20⟩ := (S15.own (i := 0) rfl).shape
 unfold maxLen at h20
 refine do_ rfl (.tuple #[(.agg #[(.slice a17 t.data.length cap18), (.int .i64 ((t.synced : Nat) : Int))]), (.bool true)]) (ex_move _) ?_
 simp only [pS, pN, pA, pC, pZ]
 refine do_ rfl (.agg #[(.slice a17 t.data.length cap18), (.int .i64 ((t.synced : Nat) : Int))]) (ex_extract rfl rfl) ?_
 simp only [pS, pN, pA, pC, pZ]
 refine do_ rfl (.bool true) (ex_extract rfl rfl) ?_
 simp only [pS, pN, pA, pC, pZ]
 refine stNew S15 (v := fun n => .pointer (some ⟨n, 0, none⟩)) rfl (ex_alloc (zero_67 _)) (fun n21 w22 S23 => ?_)
 simp only [pS, pN, pA, pC, pZ]
 have S23 : St w F w22 F14 [⟨n21, [(.slice none 0 0), (.int .i64 0)], 67⟩, ⟨n8, [(.slice none 0 0), (.int .i64 0)], 67⟩, ⟨n5, [(.int .i64 ((m.turn : Nat) : Int)), (.slice x1 m.writes.length y1)], 72⟩, ⟨n2, [(.slice x t.data.length y), (.int .i64 ((t.synced : Nat) : Int))], 67⟩] [ownP 1 ByC ByC.mono 5 w.heap.size (.slice a17 t.data.length cap18) t.data] := S23
 refine stStore (i := 0) (v := (.agg #[(.slice a17 t.data.length cap18), (.int .i64 ((t.synced : Nat) : Int))])) S23 rfl rfl rfl rfl (size_67) (allc2 rfl rfl) (Nat.le_of_ble_eq_true rfl) (fun w24 S25 => ?_)
 simp only [pS, pN, pA, pC, pZ]
 have S25 : St w F w24 F14 [⟨n21, [(.slice a17 t.data.length cap18), (.int .i64 ((t.synced : Nat) : Int))], 67⟩, ⟨n8, [(.slice none 0 0), (.int .i64 0)], 67⟩, ⟨n5, [(.int .i64 ((m.turn : Nat) : Int)), (.slice x1 m.writes.length y1)], 72⟩, ⟨n2, [(.slice x t.data.length y), (.int .i64 ((t.synced : Nat) : Int))], 67⟩] [ownP 1 ByC ByC.mono 5 w.heap.size (.slice a17 t.data.length cap18) t.data] := S25
 refine do_ rfl (.bool true) (ex_assign _) ?_
 simp only [pS, pN, pA, pC, pZ]
 refine wl_nil (hK11 _ _ ?_)
 refine wp_seq_k (fun K26 hK26 => ?_)
 refine wp_seq_k (fun K27 hK27 => region_wl ?_)
 refine do_ rfl (.bool true) (ex_move _) ?_
 simp only [pS, pN, pA, pC, pZ]
 refine do_ rfl (.bool false) (ex_not (b := true) rfl rfl) ?_
 simp only [pS, pN, pA, pC, pZ]
 refine wl_nil (hK27 _ _ ?_)
 refine wp_cond_false rfl ?_
 refine wp_skip ?_
 refine hK26 _ _ ?_
 refine wp_seq_k (fun K28 hK28 => region_wl ?_)
 refine do_ rfl (.agg #[(.int .i64 ((m.turn : Nat) : Int)), (.slice x1 m.writes.length y1)]) (ex_load rfl (loadN (cs := [(.int .i64 ((m.turn : Nat) : Int)), (.slice x1 m.writes.length y1)]) Tryd.underlying72 rfl (size_72) (St.range S25 (i := 2) rfl 0 [(.int .i64 ((m.turn : Nat) : Int)), (.slice x1 m.writes.length y1)] (sub_range 0 rfl)))) ?_
 simp only [pS, pN, pA, pC, pZ]
 refine stGives S25 rfl (ex_fn (vs := #[(.agg #[(.int .i64 ((m.turn : Nat) : Int)), (.slice x1 m.writes.length y1)])]) (map1 rfl) rfl (ent_30 _ _)) (encode_spec _ _ _ (⟨m.turn, m.writes⟩ : Cm) (S25).sat ⟨_, _, rfl, (h1.mono le16)⟩ hm) ?_
 intro v34 w29 F31 S30 le32 R33
 obtain ⟨_, rfl, r37⟩ := R33
 obtain ⟨a35, c36, rfl, h38, _⟩ := r37.shape
 have h38 : (encCm m.turn m.writes).length ≤ c36 := h38
 have r37 : Bs _ (.slice a35 (encCm m.turn m.writes).length c36) (encCm m.turn m.writes) := r37
 simp only [pS, pN, pA, pC, pZ]
 refine do_ rfl (.tuple #[(.slice a35 (encCm m.turn m.writes).length c36), (.int .i64 0)]) (ex_move _) ?_
 simp only [pS, pN, pA, pC, pZ]
 refine do_ rfl (.slice a35 (encCm m.turn m.writes).length c36) (ex_extract rfl rfl) ?_
 simp only [pS, pN, pA, pC, pZ]
 refine do_ rfl (.int .i64 0) (ex_extract rfl rfl) ?_
 simp only [pS, pN, pA, pC, pZ]
 refine do_ rfl (.slice a35 (encCm m.turn m.writes).length c36) (ex_assign _) ?_
 simp only [pS, pN, pA, pC, pZ]
 refine do_ rfl (.int .i64 0) (ex_assign _) ?_
 simp only [pS, pN, pA, pC, pZ]
 refine wl_nil (hK28 _ _ ?_)
 refine wp_seq_k (fun K39 hK39 => ?_)
 refine wp_seq_k (fun K40 hK40 => region_wl ?_)
 refine do_ rfl (.int .i64 0) (ex_move _) ?_
 simp only [pS, pN, pA, pC, pZ]
 refine do_ rfl (.bool false) (ex_neq (b := false) rfl rfl (by decide)) ?_
 simp only [pS, pN, pA, pC, pZ]
 refine wl_nil (hK40 _ _ ?_)
 refine wp_cond_false rfl ?_
 refine wp_skip ?_
 refine hK39 _ _ ?_
 refine wp_seq_k (fun K41 hK41 => ?_)
 obtain ⟨hb1, hb2, hb3⟩ := bodyB_len hm
 obtain ⟨hf1, hf2⟩ := frameB_len hm
 refine region_wl ?_
 refine do_ rfl (.slice a35 (encCm m.turn m.writes).length c36) (ex_move _) ?_
 simp only [pS, pN, pA, pC, pZ]
 refine do_ rfl (.int .i64 (((encCm m.turn m.writes).length : Nat) : Int)) (ex_len Tryd.underlying23 rfl) ?_
 simp only [pS, pN, pA, pC, pZ]
 refine do_ rfl (.int .i64 ((((encCm m.turn m.writes).length / 256) : Nat) : Int)) (ex_shrN (m := ((encCm m.turn m.writes).length)) (n := 8) rfl rfl (by decide)) ?_
 simp only [pS, pN, pA, pC, pZ]
 refine do_ rfl (bv (b8 ((encCm m.turn m.writes).length / 256))) (ex_convert (v := (.int .i64 ((((encCm m.turn m.writes).length / 256) : Nat) : Int))) rfl (conv_b8 ((encCm m.turn m.writes).length / 256) _)) ?_
 simp only [pS, pN, pA, pC, pZ]
 refine do_ rfl (.slice a35 (encCm m.turn m.writes).length c36) (ex_move _) ?_
 simp only [pS, pN, pA, pC, pZ]
 refine do_ rfl (.int .i64 (((encCm m.turn m.writes).length : Nat) : Int)) (ex_len Tryd.underlying23 rfl) ?_
 simp only [pS, pN, pA, pC, pZ]
 refine do_ rfl (bv (b8 ((encCm m.turn m.writes).length))) (ex_convert (v := (.int .i64 (((encCm m.turn m.writes).length : Nat) : Int))) rfl (conv_b8 ((encCm m.turn m.writes).length) _)) ?_
 simp only [pS, pN, pA, pC, pZ]
 refine stNew S30 (v := fun n => .slice (some ⟨n, 0, none⟩) 2 2) rfl (ex_lit (ps := #[(0, (bv (b8 ((encCm m.turn m.writes).length / 256)))), (1, (bv (b8 ((encCm m.turn m.writes).length))))]) (cells := #[(bv (b8 ((encCm m.turn m.writes).length / 256))), (bv (b8 ((encCm m.turn m.writes).length)))]) (E := 5) (bmap2 rfl rfl) (fun w => by kernel_rfl)) (fun n42 w43 S44 => ?_)
 simp only [pS, pN, pA, pC, pZ]
 have S44 : St w F w43 F31 [⟨n42, [(bv (b8 ((encCm m.turn m.writes).length / 256))), (bv (b8 ((encCm m.turn m.writes).length)))], 5⟩, ⟨n21, [(.slice a17 t.data.length cap18), (.int .i64 ((t.synced : Nat) : Int))], 67⟩, ⟨n8, [(.slice none 0 0), (.int .i64 0)], 67⟩, ⟨n5, [(.int .i64 ((m.turn : Nat) : Int)), (.slice x1 m.writes.length y1)], 72⟩, ⟨n2, [(.slice x t.data.length y), (.int .i64 ((t.synced : Nat) : Int))], 67⟩] [ownP 1 ByC ByC.mono 5 w.heap.size (.slice a17 t.data.length cap18) t.data] := S44
 refine do_ rfl (.slice a35 (encCm m.turn m.writes).length c36) (ex_move _) ?_
 simp only [pS, pN, pA, pC, pZ]
 have S45 : St w F w43 F31 [⟨n21, [(.slice a17 t.data.length cap18), (.int .i64 ((t.synced : Nat) : Int))], 67⟩, ⟨n8, [(.slice none 0 0), (.int .i64 0)], 67⟩, ⟨n5, [(.int .i64 ((m.turn : Nat) : Int)), (.slice x1 m.writes.length y1)], 72⟩, ⟨n2, [(.slice x t.data.length y), (.int .i64 ((t.synced : Nat) : Int))], 67⟩] [ownP 1 ByC ByC.mono 5 w.heap.size (.slice (some ⟨n42, 0, none⟩) 2 2) [b8 ((encCm m.turn m.writes).length / 256), b8 (encCm m.turn m.writes).length], ownP 1 ByC ByC.mono 5 w.heap.size (.slice a17 t.data.length cap18) t.data] := St.blkRow (k := 1) (l := [b8 ((encCm m.turn m.writes).length / 256), b8 (encCm m.turn m.writes).length]) (el := [[(bv (b8 ((encCm m.turn m.writes).length / 256)))], [(bv (b8 ((encCm m.turn m.writes).length)))]]) (hR := ByC.mono) S44 rfl ⟨rfl, rfl, trivial⟩ (by simp) rfl (by simp) (by unfold maxLen; decide) (S44.blk _ (List.mem_cons_self ..)).2.2
 refine stAppendS (r := 0) (u := (.slice a35 (encCm m.turn m.writes).length c36)) S45 rfl i5 (.int .u8 0) 1 Tryd.underlying23 hi5 hz5 hs5 hb5 rfl (by decide) rfl rfl rfl (Sl.toW (Bs.sl r37) (S45).sat) ByC.one (Nat.le_refl _) S45.gr.below.size (by unfold maxLen; (try simp only [List.length_append, List.length_cons, List.length_nil]); omega) (by (try simp only [List.length_append, List.length_cons, List.length_nil]); omega) ?_
 intro v46 w47 S48 hn49
 simp only [pS, pN, pA, pC, pZ]
 have S48 : St w F w47 F31 [⟨n21, [(.slice a17 t.data.length cap18), (.int .i64 ((t.synced : Nat) : Int))], 67⟩, ⟨n8, [(.slice none 0 0), (.int .i64 0)], 67⟩, ⟨n5, [(.int .i64 ((m.turn : Nat) : Int)), (.slice x1 m.writes.length y1)], 72⟩, ⟨n2, [(.slice x t.data.length y), (.int .i64 ((t.synced : Nat) : Int))], 67⟩] [ownP 1 ByC ByC.mono 5 w.heap.size v46 ([b8 ((encCm m.turn m.writes).length / 256), b8 (encCm m.turn m.writes).length] ++ (encCm m.turn m.writes)), ownP 1 ByC ByC.mono 5 w.heap.size (.slice a17 t.data.length cap18) t.data] := S48
 have S48 : St w F w47 F31 [⟨n21, [(.slice a17 t.data.length cap18), (.int .i64 ((t.synced : Nat) : Int))], 67⟩, ⟨n8, [(.slice none 0 0), (.int .i64 0)], 67⟩, ⟨n5, [(.int .i64 ((m.turn : Nat) : Int)), (.slice x1 m.writes.length y1)], 72⟩, ⟨n2, [(.slice x t.data.length y), (.int .i64 ((t.synced : Nat) : Int))], 67⟩] [ownP 1 ByC ByC.mono 5 w.heap.size v46 (bodyB m), ownP 1 ByC ByC.mono 5 w.heap.size (.slice a17 t.data.length cap18) t.data] := S48
 refine do_ rfl v46 (ex_assign _) ?_
 simp only [pS, pN, pA, pC, pZ]
 refine wl_nil (hK41 _ _ ?_)
 refine wp_seq_k (fun K50 hK50 => region_wl ?_)
 refine do_ rfl v46 (ex_move _) ?_
 simp only [pS, pN, pA, pC, pZ]
 obtain ⟨F51, hs52, le53, hsl54⟩ := own_peek S48 (i := 0) rfl
 refine stGivesSum S48 le53 rfl (ex_fn (vs := #[v46]) (map1 rfl) rfl (ent_59 _ _)) (Sum_own _ _ _ (bodyB m) hs52 (hT.at S48.gr.below) (bs_of_sl hsl54) (by omega)) ?_
 intro v55 w56 F57 S58 le59
 simp only [pS, pN, pA, pC, pZ]
 have S58 : St w F w56 F57 [⟨n21, [(.slice a17 t.data.length cap18), (.int .i64 ((t.synced : Nat) : Int))], 67⟩, ⟨n8, [(.slice none 0 0), (.int .i64 0)], 67⟩, ⟨n5, [(.int .i64 ((m.turn : Nat) : Int)), (.slice x1 m.writes.length y1)], 72⟩, ⟨n2, [(.slice x t.data.length y), (.int .i64 ((t.synced : Nat) : Int))], 67⟩] [ownP 1 ByC ByC.mono 5 w.heap.size v55 (sumL (bodyB m)), ownP 1 ByC ByC.mono 5 w.heap.size v46 (bodyB m), ownP 1 ByC ByC.mono 5 w.heap.size (.slice a17 t.data.length cap18) t.data] := S58
 refine do_ rfl (.tuple #[v55, (.int .i64 0)]) (ex_move _) ?_
 simp only [pS, pN, pA, pC, pZ]
 refine do_ rfl v55 (ex_extract rfl rfl) ?_
 simp only [pS, pN, pA, pC, pZ]
 refine do_ rfl (.int .i64 0) (ex_extract rfl rfl) ?_
 simp only [pS, pN, pA, pC, pZ]
 refine do_ rfl v55 (ex_assign _) ?_
 simp only [pS, pN, pA, pC, pZ]
 refine do_ rfl (.int .i64 0) (ex_assign _) ?_
 simp only [pS, pN, pA, pC, pZ]
 refine wl_nil (hK50 _ _ ?_)
 refine wp_seq_k (fun K60 hK60 => ?_)
 obtain ⟨F61, S62, le63, hv64⟩ := St.freeze S58 (i := 0) rfl (Nat.le_refl _)
 have S62 : St w F w56 F61 [⟨n21, [(.slice a17 t.data.length cap18), (.int .i64 ((t.synced : Nat) : Int))], 67⟩, ⟨n8, [(.slice none 0 0), (.int .i64 0)], 67⟩, ⟨n5, [(.int .i64 ((m.turn : Nat) : Int)), (.slice x1 m.writes.length y1)], 72⟩, ⟨n2, [(.slice x t.data.length y), (.int .i64 ((t.synced : Nat) : Int))], 67⟩] [ownP 1 ByC ByC.mono 5 w.heap.size v46 (bodyB m), ownP 1 ByC ByC.mono 5 w.heap.size (.slice a17 t.data.length cap18) t.data] := S62
 have hv64 : Bys _ v55 (sumL (bodyB m)) := hv64
 have r65 := bs_of_sl hv64
 obtain ⟨a66, c67, rfl, _⟩ := r65.shape
 have hsl := sumL_len (bodyB m)
 have h4 : ((sumL (bodyB m)).take 4).length = 4 := by rw [List.length_take, hsl]; rfl
 have hcs : 32 ≤ c67 := by obtain ⟨_, _, e, q, _⟩ := r65.shape; injection e with _ _ e; omega
 refine region_wl ?_
 refine do_ rfl v46 (ex_move _) ?_
 simp only [pS, pN, pA, pC, pZ]
 refine do_ rfl (.slice a66 (sumL (bodyB m)).length c67) (ex_move _) ?_
 simp only [pS, pN, pA, pC, pZ]
 have r68 : Bs _ (.slice a66 4 c67) ((sumL (bodyB m)).take 4) := bs_of_sl (Sl.takeN (Bs.sl r65) (by rw [sumL_len]; decide))
 refine do_ rfl (.slice a66 4 c67) (ex_slice (l := 0) (h := 4) (sz := 1) Tryd.underlying23 rfl (sizeof_5 _) (.inl ⟨rfl, rfl⟩) (.inr ⟨_, rfl, rfl⟩) (by omega) (by omega) (slice_zero)) ?_
 simp only [pS, pN, pA, pC, pZ]
 refine stAppendS (r := 0) (u := (.slice a66 4 c67)) S62 rfl i5 (.int .u8 0) 1 Tryd.underlying23 hi5 hz5 hs5 hb5 rfl (by decide) rfl rfl rfl (Sl.toW (Bs.sl r68) (S62).sat) ByC.one (Nat.le_refl _) S62.gr.below.size (by unfold maxLen; (try simp only [List.length_append, List.length_cons, List.length_nil]); omega) (by (try simp only [List.length_append, List.length_cons, List.length_nil]); omega) ?_
 intro v69 w70 S71 hn72
 simp only [pS, pN, pA, pC, pZ]
 have S71 : St w F w70 F61 [⟨n21, [(.slice a17 t.data.length cap18), (.int .i64 ((t.synced : Nat) : Int))], 67⟩, ⟨n8, [(.slice none 0 0), (.int .i64 0)], 67⟩, ⟨n5, [(.int .i64 ((m.turn : Nat) : Int)), (.slice x1 m.writes.length y1)], 72⟩, ⟨n2, [(.slice x t.data.length y), (.int .i64 ((t.synced : Nat) : Int))], 67⟩] [ownP 1 ByC ByC.mono 5 w.heap.size v69 ((bodyB m) ++ ((sumL (bodyB m)).take 4)), ownP 1 ByC ByC.mono 5 w.heap.size (.slice a17 t.data.length cap18) t.data] := S71
 have S71 : St w F w70 F61 [⟨n21, [(.slice a17 t.data.length cap18), (.int .i64 ((t.synced : Nat) : Int))], 67⟩, ⟨n8, [(.slice none 0 0), (.int .i64 0)], 67⟩, ⟨n5, [(.int .i64 ((m.turn : Nat) : Int)), (.slice x1 m.writes.length y1)], 72⟩, ⟨n2, [(.slice x t.data.length y), (.int .i64 ((t.synced : Nat) : Int))], 67⟩] [ownP 1 ByC ByC.mono 5 w.heap.size v69 (frameB m), ownP 1 ByC ByC.mono 5 w.heap.size (.slice a17 t.data.length cap18) t.data] := S71
 refine do_ rfl v69 (ex_assign _) ?_
 simp only [pS, pN, pA, pC, pZ]
 refine wl_nil (hK60 _ _ ?_)
 refine wp_seq_k (fun K73 hK73 => ?_)
 refine wp_seq_k (fun K74 hK74 => ?_)
 obtain ⟨a75, cap76, rfl, h77, h78⟩ := (S71.own (i := 0) rfl).shape
 unfold maxLen at h78
 refine region_wl ?_
 refine do_ rfl (.pointer (some ⟨n21, 0, none⟩)) (ex_field (q := ⟨n21, 0, none⟩) rfl (fa_67_0 _ _)) ?_
 simp only [pS, pN, pA, pC, pZ]
 refine do_ rfl (.slice a17 t.data.length cap18) (ex_load rfl (load1 (nagg_23 _) (St.cell S71 (i := 0) rfl rfl))) ?_
 simp only [pS, pN, pA, pC, pZ]
 refine do_ rfl (.int .i64 ((t.data.length : Nat) : Int)) (ex_len Tryd.underlying23 rfl) ?_
 simp only [pS, pN, pA, pC, pZ]
 refine do_ rfl (.slice a75 (frameB m).length cap76) (ex_move _) ?_
 simp only [pS, pN, pA, pC, pZ]
 refine do_ rfl (.int .i64 (((frameB m).length : Nat) : Int)) (ex_len Tryd.underlying23 rfl) ?_
 simp only [pS, pN, pA, pC, pZ]
 refine do_ rfl (.int .i64 (((t.data.length + (frameB m).length) : Nat) : Int)) (ex_add (m := ((t.data.length : Nat) : Int)) (n := (((frameB m).length : Nat) : Int)) (r := (((t.data.length + (frameB m).length) : Nat) : Int)) rfl rfl (by omega) (by omega) (by omega)) ?_
 simp only [pS, pN, pA, pC, pZ]
 refine do_ rfl (.bool false) (ex_gtr (m := (((t.data.length + (frameB m).length) : Nat) : Int)) (n := (200000 : Int)) (b := false) rfl rfl (decide_eq_false (by omega))) ?_
 simp only [pS, pN, pA, pC, pZ]
 refine wl_nil (hK74 _ _ ?_)
 refine wp_cond_false rfl ?_
 refine wp_skip ?_
 refine hK73 _ _ ?_
 refine wp_seq_k (fun K79 hK79 => ?_)
 obtain ⟨F80, S81, le82, hv83⟩ := St.freeze S71 (i := 0) rfl (Nat.le_refl _)
 have S81 : St w F w70 F80 [⟨n21, [(.slice a17 t.data.length cap18), (.int .i64 ((t.synced : Nat) : Int))], 67⟩, ⟨n8, [(.slice none 0 0), (.int .i64 0)], 67⟩, ⟨n5, [(.int .i64 ((m.turn : Nat) : Int)), (.slice x1 m.writes.length y1)], 72⟩, ⟨n2, [(.slice x t.data.length y), (.int .i64 ((t.synced : Nat) : Int))], 67⟩] [ownP 1 ByC ByC.mono 5 w.heap.size (.slice a17 t.data.length cap18) t.data] := S81
 have hv83 : Bys _ (.slice a75 (frameB m).length cap76) (frameB m) := hv83
 have r84 := bs_of_sl hv83
 refine region_wl ?_
 refine do_ rfl (.pointer (some ⟨n21, 0, none⟩)) (ex_field (q := ⟨n21, 0, none⟩) rfl (fa_67_0 _ _)) ?_
 simp only [pS, pN, pA, pC, pZ]
 refine do_ rfl (.slice a17 t.data.length cap18) (ex_load rfl (load1 (nagg_23 _) (St.cell S81 (i := 0) rfl rfl))) ?_
 simp only [pS, pN, pA, pC, pZ]
 refine do_ rfl (.slice a75 (frameB m).length cap76) (ex_move _) ?_
 simp only [pS, pN, pA, pC, pZ]
 refine stAppendS (r := 0) (u := (.slice a75 (frameB m).length cap76)) S81 rfl i5 (.int .u8 0) 1 Tryd.underlying23 hi5 hz5 hs5 hb5 rfl (by decide) rfl rfl rfl (Sl.toW (Bs.sl r84) (S81).sat) ByC.one (Nat.le_refl _) S81.gr.below.size (by unfold maxLen; (try simp only [List.length_append, List.length_cons, List.length_nil]); omega) (by (try simp only [List.length_append, List.length_cons, List.length_nil]); omega) ?_
 intro v87 w88 S89 hn90
 simp only [pS, pN, pA, pC, pZ]
 have S89 : St w F w88 F80 [⟨n21, [(.slice a17 t.data.length cap18), (.int .i64 ((t.synced : Nat) : Int))], 67⟩, ⟨n8, [(.slice none 0 0), (.int .i64 0)], 67⟩, ⟨n5, [(.int .i64 ((m.turn : Nat) : Int)), (.slice x1 m.writes.length y1)], 72⟩, ⟨n2, [(.slice x t.data.length y), (.int .i64 ((t.synced : Nat) : Int))], 67⟩] [ownP 1 ByC ByC.mono 5 w.heap.size v87 (t.data ++ (frameB m))] := S89
 obtain ⟨a91, cap92, rfl, h93, h94⟩ := (S89.own (i := 0) rfl).shape
 unfold maxLen at h94
 refine do_ rfl (.pointer (some ⟨n21, 0, none⟩)) (ex_field (q := ⟨n21, 0, none⟩) rfl (fa_67_0 _ _)) ?_
 simp only [pS, pN, pA, pC, pZ]
 refine stStore (i := 0) (v := (.slice a91 (t.data ++ (frameB m)).length cap92)) S89 rfl rfl rfl rfl (size_23) (allc1 rfl) (Nat.le_of_ble_eq_true rfl) (fun w95 S96 => ?_)
 simp only [pS, pN, pA, pC, pZ]
 have S96 : St w F w95 F80 [⟨n21, [(.slice a91 (t.data ++ (frameB m)).length cap92), (.int .i64 ((t.synced : Nat) : Int))], 67⟩, ⟨n8, [(.slice none 0 0), (.int .i64 0)], 67⟩, ⟨n5, [(.int .i64 ((m.turn : Nat) : Int)), (.slice x1 m.writes.length y1)], 72⟩, ⟨n2, [(.slice x t.data.length y), (.int .i64 ((t.synced : Nat) : Int))], 67⟩] [ownP 1 ByC ByC.mono 5 w.heap.size (.slice a91 (t.data ++ (frameB m)).length cap92) (t.data ++ (frameB m))] := S96
 refine wl_nil (hK79 _ _ ?_)
 refine wp_seq_k (fun K97 hK97 => region_wl ?_)
 refine do_ rfl (.agg #[(.slice a91 (t.data ++ (frameB m)).length cap92), (.int .i64 ((t.synced : Nat) : Int))]) (ex_load rfl (loadN (cs := [(.slice a91 (t.data ++ (frameB m)).length cap92), (.int .i64 ((t.synced : Nat) : Int))]) Tryd.underlying67 rfl (size_67) (St.range S96 (i := 0) rfl 0 [(.slice a91 (t.data ++ (frameB m)).length cap92), (.int .i64 ((t.synced : Nat) : Int))] (sub_range 0 rfl)))) ?_
 simp only [pS, pN, pA, pC, pZ]
 refine stStore (i := 1) (v := (.agg #[(.slice a91 (t.data ++ (frameB m)).length cap92), (.int .i64 ((t.synced : Nat) : Int))])) S96 rfl rfl rfl rfl (size_67) (allc2 rfl rfl) (Nat.le_of_ble_eq_true rfl) (fun w98 S99 => ?_)
 simp only [pS, pN, pA, pC, pZ]
 have S99 : St w F w98 F80 [⟨n21, [(.slice a91 (t.data ++ (frameB m)).length cap92), (.int .i64 ((t.synced : Nat) : Int))], 67⟩, ⟨n8, [(.slice a91 (t.data ++ (frameB m)).length cap92), (.int .i64 ((t.synced : Nat) : Int))], 67⟩, ⟨n5, [(.int .i64 ((m.turn : Nat) : Int)), (.slice x1 m.writes.length y1)], 72⟩, ⟨n2, [(.slice x t.data.length y), (.int .i64 ((t.synced : Nat) : Int))], 67⟩] [ownP 1 ByC ByC.mono 5 w.heap.size (.slice a91 (t.data ++ (frameB m)).length cap92) (t.data ++ (frameB m))] := S99
 refine do_ rfl (.int .i64 0) (ex_assign _) ?_
 simp only [pS, pN, pA, pC, pZ]
 refine wl_nil (hK97 _ _ ?_)
 refine wp_ret ?_
 (try simp only [Exit.then, Exit.inBlock, ↓reduceIte, Nat.reduceEqDiff])
 refine bodyPost_ret (v := (.tuple #[(.agg #[(.slice a91 (t.data ++ (frameB m)).length cap92), (.int .i64 ((t.synced : Nat) : Int))]), (.int .i64 0)])) ?_ rfl ?_
 ·exact res_ct rfl ⟨_, rfl, loadN (cs := [(.slice a91 (t.data ++ (frameB m)).length cap92), (.int .i64 ((t.synced : Nat) : Int))]) Tryd.underlying67 rfl (size_67) (St.range S99 (i := 1) rfl 0 [(.slice a91 (t.data ++ (frameB m)).length cap92), (.int .i64 ((t.synced : Nat) : Int))] (sub_range 0 rfl))⟩ rfl
 ·obtain ⟨F100, S101, le102, hv103⟩ := St.freeze S99 (i := 0) rfl (Nat.le_refl _)
  have S101 : St w F w98 F100 [⟨n21, [(.slice a91 (t.data ++ (frameB m)).length cap92), (.int .i64 ((t.synced : Nat) : Int))], 67⟩, ⟨n8, [(.slice a91 (t.data ++ (frameB m)).length cap92), (.int .i64 ((t.synced : Nat) : Int))], 67⟩, ⟨n5, [(.int .i64 ((m.turn : Nat) : Int)), (.slice x1 m.writes.length y1)], 72⟩, ⟨n2, [(.slice x t.data.length y), (.int .i64 ((t.synced : Nat) : Int))], 67⟩] [] := S101
  have hv103 : Bys _ (.slice a91 (t.data ++ (frameB m)).length cap92) (t.data ++ (frameB m)) := hv103
  have r104 := bs_of_sl hv103
  exact ⟨_, _, rfl, S101.gr, _, rfl, _, _, rfl, r104⟩
end Go.Proofs.YtikklmjengkliaaDoor
