/- Rules, plain laws and walks: DG4 DG5 RT1 RT2 TD -/
import Derived.Test.YtcanckliggcllaaDoorBU7
import Derived.Test.YtcanckliggcllaaDoorBU4
import Derived.Test.YtcanckliggcllaaDoorBU2
import Derived.Test.YtcanckliggcllaaDoorBU1
import Derived.Test.YtcanckliggcllaaDoorBU6
namespace Go.Proofs.YtcanckliggcllaaDoor
open Go.RowKit
set_option maxRecDepth 100000
set_option linter.unusedVariables false
set_option linter.unusedSimpArgs false
theorem Sl.dropD {α : Type} {k : Nat} {R : Fz → List Value → α → Prop} {F : Fz} {a : Option Addr} {n c m : Nat} {l : List α} (hk : 0 < k) (h : Sl k R F (.slice a n c) l) (hm : m ≤ n) : Sl k R F (.slice (if c = m then a else a.map (·.add (m * k))) (n - m) (c - m)) (l.drop m) := by
  have hn := Sl.len h
  obtain ⟨el, h1, h2, h3⟩ := h
  obtain ⟨a0, c0, e1, q1, q2, q3, q4⟩ := h1
  injection e1 with e1 e2 e3
  subst e1; subst e3
  have hll := h2.len
  by_cases hmn : m = l.length
  · have e : l.drop m = [] := List.drop_of_length_le (by omega)
    have e0 : n - m = 0 := by omega
    rw [e, e0]
    refine ⟨[], ⟨_, c - m, rfl, by simp, by omega, fun e => ?_, .inl rfl⟩, trivial, by simp⟩
    cases a with
    | none => have := q3 rfl; exact ⟨rfl, by omega⟩
    | some ad => split at e <;> cases e
  · have hpos : el.flatten ≠ [] := by
      intro e
      have := congrArg List.length e
      rw [flatten_len h3, hll] at this
      have := Nat.mul_pos (show 0 < l.length by omega) hk
      simp at *
      omega
    obtain ⟨b, o, e, hc⟩ := q4.resolve_left hpos
    subst e
    rw [if_neg (by omega)]
    have hs : Sl k R F (.slice (some ⟨b, o, none⟩) n c) l := ⟨el, ⟨_, _, by rw [hn], q1, q2, q3, .inr ⟨b, o, rfl, hc⟩⟩, h2, h3⟩
    have := Sl.dropN (m := m) hs hm rfl rfl
    show Sl k R F (.slice (some (Addr.add ⟨b, o, none⟩ (m * k))) _ _) _
    rw [Addr.add_mid]
    exact this
theorem Bs.restD {F : Fz} {a : Option Addr} {m c n : Nat} {l : By} (h : Bs F (.slice a m c) l) (hn : n ≤ m) : Bs F (.slice (if c = n then a else a.map (·.add (n * 1))) (m - n) (c - n)) (l.drop n) := bs_of_sl (Sl.dropD (by decide) h.sl hn)
theorem made_bytes (n : Nat) : (madeCells (Value.int .u8 0).cells (n * 1)).toList = (List.replicate n (0 : UInt8)).map bv := by
  rw [show (Value.int .u8 0).cells = #[.int .u8 0] from rfl, toList_madeCells_one]; simp [bv]
theorem stirs_zero (S : List (BitVec 64)) : stirsL S 0 = S := rfl
theorem mix_zero (S : List (BitVec 64)) (p : By) : mixL S p 0 = S := rfl
theorem absorb_at {Z X R : List (BitVec 64)} {p : By} (hX : X = mixL Z p 136) (h : 136 ≤ p.length) (e : absorbL Z p (p.length / 136) = R) : absorbL (stirsL X 24) (p.drop 136) ((p.drop 136).length / 136) = R := by
  rw [hX, ← absorb_step h]; exact e
theorem absorb_end {Z R : List (BitVec 64)} {p : By} (h : p.length / 136 = 0) (e : absorbL Z p (p.length / 136) = R) : Z = R := by
  rw [h] at e; rw [← e]; cases p <;> rfl
theorem outL_len (Z : List (BitVec 64)) : (outL Z).length = 32 := by simp [outL]
set_option maxHeartbeats 8000000 in
theorem sum_spec (F : Fz) (w : World) (v : Value) (b : By) (hs : Sat w F) (hT : Tabs w) (hb : Bs F v b) (hn : b.length ≤ 100000) :
    Calls Tryd.prog 36 #[v] w (Gives w F fun F' u => Bs F' u (sumL b)) := by
 obtain ⟨x, y, rfl, hc1', hc2'⟩ := hb.shape
 unfold maxLen at hc2'
 obtain ⟨i5, hi5, hz5, hs5, hb5⟩ := info_parts infoU8
 have S := St.start hs
 go_enter Tryd.func36, Tryd.ntmps36
 refine wp_seq_k (fun K1 hK1 => region_wl ?_)
 refine do_ rfl (.slice none 0 0) (ex_assign _) ?_
 simp only [pS, pN, pA, pC, pZ]
 refine wl_nil (hK1 _ _ ?_)
 refine wp_seq_k (fun K2 hK2 => region_wl ?_)
 refine do_ rfl (.slice x b.length y) (ex_move _) ?_
 simp only [pS, pN, pA, pC, pZ]
 have S3 := St.addNil S 1 ByC ByC.mono 5 w.heap.size
 refine stAppendS (r := 0) (u := (.slice x b.length y)) S3 rfl i5 (.int .u8 0) 1 Tryd.underlying22 hi5 hz5 hs5 hb5 rfl (by decide) rfl rfl rfl (Sl.toW (Bs.sl hb) (S3).sat) ByC.one (Nat.le_refl _) S3.gr.below.size (by unfold maxLen; simp only [List.length_nil]; omega) (by simp only [List.length_nil]; omega) ?_
 intro v4 w5 S6 hn7
 simp only [pS, pN, pA, pC, pZ]
 have S6 : St w F w5 F [] [ownP 1 ByC ByC.mono 5 w.heap.size v4 ([] ++ b)] := S6
 refine stNew S6 (v := fun n => .slice (some ⟨n, 0, none⟩) 1 1) rfl (ex_lit (ps := #[(0, (.int .u8 6))]) (cells := #[(.int .u8 6)]) (E := 5) (bmap1 rfl) (fun w => by kernel_rfl)) (fun n8 w9 S10 => ?_)
 simp only [pS, pN, pA, pC, pZ]
 have S10 : St w F w9 F [⟨n8, [(.int .u8 6)], 5⟩] [ownP 1 ByC ByC.mono 5 w.heap.size v4 ([] ++ b)] := S10
 rw [List.nil_append] at S10
 refine stPush (i := 0) (r := 0) (p := (6 : UInt8)) (cs := [(.int .u8 6)]) S10 rfl i5 (.int .u8 0) 1 Tryd.underlying22 hi5 hz5 hs5 hb5 rfl (by decide) rfl rfl rfl rfl rfl (bv_one 6) (rfl) (Nat.le_refl _) S10.gr.below.size (by unfold maxLen; omega) (by omega) ?_
 intro v11 w12 S13 hn14
 simp only [pS, pN, pA, pC, pZ]
 have S13 := St.drop S13 (L' := []) (.cons _ (List.Sublist.refl _))
 have S13 : St w F w12 F [] [ownP 1 ByC ByC.mono 5 w.heap.size v11 (b ++ [(6 : UInt8)])] := S13
 refine do_ rfl v11 (ex_assign _) ?_
 simp only [pS, pN, pA, pC, pZ]
 refine wl_nil (hK2 _ _ ?_)
 refine wp_seq_k (fun K15 hK15 => ?_)
 refine wp_block ?_
 rw [padK_zero] at S13
 refine wp_loop_g (fun mm aa w17 => ∃ (k : Nat) (v : Value) (u16 : Nat → Value), mm = padN b - k ∧ u16 = slots aa ∧ aa = ⟨#[(.slice x b.length y), undef, (.slice none 0 0), v, undef, undef, undef, undef, undef, (.slice x b.length y), v4, (.slice (some ⟨n8, 0, none⟩) 1 1), v11, (u16 13), (u16 14), (u16 15), (u16 16), (u16 17), (u16 18), (u16 19), undef, undef, undef, undef, undef, undef, undef, undef, undef, undef, undef, undef, undef, undef, undef, undef, undef, undef, undef, undef, undef, undef, undef, undef, undef, undef, undef, undef, undef, undef, undef, undef, undef, undef, undef, undef, undef, undef, undef, undef, undef, undef, undef, undef, undef, undef, undef, undef, undef, undef, undef, undef, undef, undef, undef, undef, undef, undef], []⟩ ∧ St w F w17 F [] [ownP 1 ByC ByC.mono 5 w.heap.size v (padK b k)] ∧ (k ≤ padN b)) _ ⟨0, v11, _, rfl, rfl, rfl, S13, (Nat.zero_le _)⟩ ?_
 rintro m18 a19 w20 ⟨k, v, u16, rfl, -, rfl, S21, hk⟩ K23 hK23
 refine wp_seq_k (fun K24 hK24 => ?_)
 refine wp_seq_k (fun K25 hK25 => ?_)
 have hpl := padK_len b k
 have hpn : padN b < 136 := by unfold padN; omega
 obtain ⟨a26, cap27, rfl, h28, h29⟩ := (S21.own (i := 0) rfl).shape
 unfold maxLen at h29
 refine region_wl ?_
 refine do_ rfl (.slice a26 (padK b k).length cap27) (ex_move _) ?_
 simp only [pS, pN, pA, pC, pZ]
 refine do_ rfl (.int .i64 (((padK b k).length : Nat) : Int)) (ex_len Tryd.underlying22 rfl) ?_
 simp only [pS, pN, pA, pC, pZ]
 refine do_ rfl (.int .i64 ((((padK b k).length % 136) : Nat) : Int)) (ex_remA (m := ((padK b k).length)) (n := 136) rfl rfl (by decide) (by omega)) ?_
 simp only [pS, pN, pA, pC, pZ]
 by_cases hc16 : ((padK b k).length % 136) = 0
 ·refine do_ rfl (.bool false) (ex_neq (m := ((((padK b k).length % 136) : Nat) : Int)) (n := (0 : Int)) (b := false) rfl rfl (bne_eq_false_iff_eq.2 (by omega))) ?_
  simp only [pS, pN, pA, pC, pZ]
  refine wl_nil (hK25 _ _ ?_)
  refine wp_cond_false rfl ?_
  refine wp_exit ?_
  refine hK15 _ _ ?_
  refine wp_seq_k (fun K30 hK30 => ?_)
  have hkk : k = padN b := by unfold padN at *; omega
  subst hkk
  obtain ⟨xb, hxb⟩ : ∃ x, (padK b (padN b))[(padK b (padN b)).length - 1]? = some x := ⟨_, List.getElem?_eq_getElem (by omega)⟩
  obtain ⟨g31, ha32, c33⟩ := by_at (St.own S21 (i := 0) rfl) hxb
  subst ha32
  refine region_wl ?_
  refine do_ rfl (.slice (some ⟨g31, 0, none⟩) (padK b (padN b)).length cap27) (ex_move _) ?_
  simp only [pS, pN, pA, pC, pZ]
  refine do_ rfl (.slice (some ⟨g31, 0, none⟩) (padK b (padN b)).length cap27) (ex_move _) ?_
  simp only [pS, pN, pA, pC, pZ]
  refine do_ rfl (.int .i64 (((padK b (padN b)).length : Nat) : Int)) (ex_len Tryd.underlying22 rfl) ?_
  simp only [pS, pN, pA, pC, pZ]
  refine do_ rfl (.int .i64 ((((padK b (padN b)).length - 1) : Nat) : Int)) (ex_sub (m := (((padK b (padN b)).length : Nat) : Int)) (n := (1 : Int)) (r := ((((padK b (padN b)).length - 1) : Nat) : Int)) rfl rfl (by omega) (by omega) (by omega)) ?_
  simp only [pS, pN, pA, pC, pZ]
  refine do_ rfl (.pointer (some ⟨g31, 0 + ((padK b (padN b)).length - 1) * 1, none⟩)) (ex_at (i := ((padK b (padN b)).length - 1)) (sz := 1) Tryd.underlying22 (sizeof_5 _) rfl rfl rfl (by omega) rfl) ?_
  simp only [pS, pN, pA, pC, pZ]
  refine do_ rfl (bv xb) (ex_load rfl (load1 (nagg_5 _) c33)) ?_
  simp only [pS, pN, pA, pC, pZ]
  refine do_ rfl (bv (xb ||| 128)) (ex_orB rfl rfl) ?_
  simp only [pS, pN, pA, pC, pZ]
  refine do_ rfl (.pointer (some ⟨g31, 0 + ((padK b (padN b)).length - 1) * 1, none⟩)) (ex_at (i := ((padK b (padN b)).length - 1)) (sz := 1) Tryd.underlying22 (sizeof_5 _) rfl rfl rfl (by omega) rfl) ?_
  simp only [pS, pN, pA, pC, pZ]
  refine stSetRow (r := 0) (i := ((padK b (padN b)).length - 1)) (p := (xb ||| 128)) (u := (bv (xb ||| 128))) S21 rfl rfl (by omega) rfl rfl (by omega) (size_5) (allc1 rfl) rfl rfl (Nat.le_refl _) (fun w34 S35 => ?_)
  simp only [pS, pN, pA, pC, pZ]
  have S35 : St w F w34 F [] [ownP 1 ByC ByC.mono 5 w.heap.size (.slice (some ⟨g31, 0, none⟩) (padK b (padN b)).length cap27) ((padK b (padN b)).set ((padK b (padN b)).length - 1) (xb ||| 128))] := S35
  rw [padL_of hxb] at S35
  refine wl_nil (hK30 _ _ ?_)
  refine wp_seq_k (fun K36 hK36 => ?_)
  obtain ⟨F37, S38, le39, hv40⟩ := St.freeze S35 (i := 0) rfl (Nat.le_refl _)
  have S38 : St w F w34 F37 [] [] := S38
  have hv40 : Bys _ (.slice (some ⟨g31, 0, none⟩) (padK b (padN b)).length cap27) (padL b) := hv40
  have r41 := bs_of_sl hv40
  refine region_wl ?_
  refine stNew S38 (v := fun n => .pointer (some ⟨n, 0, none⟩)) rfl (ex_alloc (zero_90 _)) (fun n42 w43 S44 => ?_)
  simp only [pS, pN, pA, pC, pZ]
  have S44 : St w F w43 F37 [⟨n42, ((List.replicate 25 (0 : BitVec 64)).map laneV), 90⟩] [] := S44
  refine wl_nil (hK36 _ _ ?_)
  refine wp_seq_k (fun K45 hK45 => ?_)
  refine wp_block ?_
  refine wp_loop_g (fun mm aa w47 => ∃ (Z : List (BitVec 64)) (ra : Option Addr) (rn : Nat) (rc : Nat) (rest : By) (u46 : Nat → Value), mm = rest.length ∧ u46 = slots aa ∧ aa = ⟨#[(.slice x b.length y), undef, (.slice none 0 0), (.slice ra rn rc), (.pointer (some ⟨n42, 0, none⟩)), (u46 5), (u46 6), undef, undef, (.slice x b.length y), v4, (.slice (some ⟨n8, 0, none⟩) 1 1), v11, (.slice (some ⟨g31, 0, none⟩) (padK b (padN b)).length cap27), (.int .i64 (((padK b (padN b)).length : Nat) : Int)), (.int .i64 ((((padK b (padN b)).length % 136) : Nat) : Int)), (.bool false), (u16 17), (u16 18), (u16 19), (.slice (some ⟨g31, 0, none⟩) (padK b (padN b)).length cap27), (.slice (some ⟨g31, 0, none⟩) (padK b (padN b)).length cap27), (.int .i64 (((padK b (padN b)).length : Nat) : Int)), (.int .i64 ((((padK b (padN b)).length - 1) : Nat) : Int)), (.pointer (some ⟨g31, 0 + ((padK b (padN b)).length - 1) * 1, none⟩)), (bv xb), (bv (xb ||| 128)), (.pointer (some ⟨g31, 0 + ((padK b (padN b)).length - 1) * 1, none⟩)), (u46 28), (u46 29), (u46 30), (u46 31), (u46 32), (u46 33), (u46 34), (u46 35), (u46 36), (u46 37), (u46 38), (u46 39), (u46 40), (u46 41), (u46 42), (u46 43), (u46 44), (u46 45), (u46 46), (u46 47), (u46 48), (u46 49), (u46 50), (u46 51), (u46 52), (u46 53), (u46 54), (u46 55), (u46 56), (u46 57), undef, undef, undef, undef, undef, undef, undef, undef, undef, undef, undef, undef, undef, undef, undef, undef, undef, undef, undef, undef], []⟩ ∧ St w F w47 F37 [⟨n42, (Z.map laneV), 90⟩] [] ∧ (Z.length = 25) ∧ (Bs F37 (.slice ra rn rc) rest) ∧ (rest.length % 136 = 0) ∧ (rest.length ≤ 200000) ∧ (absorbL Z rest (rest.length / 136) = absorbL (List.replicate 25 0) (padL b) ((padL b).length / 136))) _ ⟨(List.replicate 25 0), (some ⟨g31, 0, none⟩), (padK b (padN b)).length, cap27, (padL b), _, rfl, rfl, rfl, S44, (by simp), r41, (by rw [padL_len]; unfold padN; omega), (by rw [padL_len]; unfold padN; omega), rfl⟩ ?_
  rintro m48 a49 w50 ⟨Z, ra, rn, rc, rest, u46, rfl, -, rfl, S51, hZ, hrest, hrm, hrl, hab⟩ K53 hK53
  refine wp_seq_k (fun K54 hK54 => ?_)
  refine wp_seq_k (fun K55 hK55 => ?_)
  have hrn := hrest.len
  refine region_wl ?_
  refine do_ rfl (.slice ra rn rc) (ex_move _) ?_
  simp only [pS, pN, pA, pC, pZ]
  refine do_ rfl (.int .i64 ((rn : Nat) : Int)) (ex_len Tryd.underlying22 rfl) ?_
  simp only [pS, pN, pA, pC, pZ]
  by_cases hc30 : 0 < rn
  ·refine do_ rfl (.bool true) (ex_gtr (m := ((rn : Nat) : Int)) (n := (0 : Int)) (b := true) rfl rfl (decide_eq_true (by omega))) ?_
   simp only [pS, pN, pA, pC, pZ]
   refine wl_nil (hK55 _ _ ?_)
   refine wp_cond_true rfl ?_
   refine wp_skip ?_
   refine hK54 _ _ ?_
   refine wp_seq_k (fun K56 hK56 => ?_)
   refine wp_block ?_
   refine wp_seq_k (fun K57 hK57 => ?_)
   refine wp_seq_k (fun K58 hK58 => region_wl ?_)
   refine do_ rfl (.int .i64 0) (ex_move _) ?_
   simp only [pS, pN, pA, pC, pZ]
   refine wl_nil (hK58 _ _ ?_)
   refine wp_block ?_
   have S51 : St w F w50 F37 [⟨n42, ((mixL Z rest 0).map laneV), 90⟩] [] := by rw [mix_zero]; exact S51
   refine wp_loop_g (fun mm aa w60 => ∃ (i : Nat) (u59 : Nat → Value), mm = 136 - i ∧ u59 = slots aa ∧ aa = ⟨#[(.slice x b.length y), undef, (.slice none 0 0), (.slice ra rn rc), (.pointer (some ⟨n42, 0, none⟩)), (u59 5), (u46 6), undef, undef, (.slice x b.length y), v4, (.slice (some ⟨n8, 0, none⟩) 1 1), v11, (.slice (some ⟨g31, 0, none⟩) (padK b (padN b)).length cap27), (.int .i64 (((padK b (padN b)).length : Nat) : Int)), (.int .i64 ((((padK b (padN b)).length % 136) : Nat) : Int)), (.bool false), (u16 17), (u16 18), (u16 19), (.slice (some ⟨g31, 0, none⟩) (padK b (padN b)).length cap27), (.slice (some ⟨g31, 0, none⟩) (padK b (padN b)).length cap27), (.int .i64 (((padK b (padN b)).length : Nat) : Int)), (.int .i64 ((((padK b (padN b)).length - 1) : Nat) : Int)), (.pointer (some ⟨g31, 0 + ((padK b (padN b)).length - 1) * 1, none⟩)), (bv xb), (bv (xb ||| 128)), (.pointer (some ⟨g31, 0 + ((padK b (padN b)).length - 1) * 1, none⟩)), (.slice ra rn rc), (.int .i64 ((rn : Nat) : Int)), (.bool true), (u46 31), (u46 32), (.int .i64 ((i : Nat) : Int)), (u59 34), (u59 35), (u59 36), (u59 37), (u59 38), (u59 39), (u59 40), (u59 41), (u59 42), (u59 43), (u59 44), (u59 45), (u59 46), (u59 47), (u59 48), (u59 49), (u59 50), (u59 51), (u46 52), (u46 53), (u46 54), (u46 55), (u46 56), (u46 57), undef, undef, undef, undef, undef, undef, undef, undef, undef, undef, undef, undef, undef, undef, undef, undef, undef, undef, undef, undef], []⟩ ∧ St w F w60 F37 [⟨n42, ((mixL Z rest i).map laneV), 90⟩] [] ∧ (i ≤ 136)) _ ⟨0, _, rfl, rfl, rfl, S51, (by omega)⟩ ?_
   rintro m61 a62 w63 ⟨i, u59, rfl, -, rfl, S64, hi⟩ K66 hK66
   refine wp_seq_k (fun K67 hK67 => region_wl ?_)
   by_cases hc34 : i < 136
   ·refine do_ rfl (.bool true) (ex_lss (m := ((i : Nat) : Int)) (n := (136 : Int)) (b := true) rfl rfl (decide_eq_true (by omega))) ?_
    simp only [pS, pN, pA, pC, pZ]
    refine wl_nil (hK67 _ _ ?_)
    refine wp_seq_k (fun K68 hK68 => ?_)
    refine wp_cond_true rfl ?_
    refine wp_skip ?_
    refine hK68 _ _ ?_
    refine wp_seq_k (fun K69 hK69 => ?_)
    refine wp_block ?_
    refine wp_seq_k (fun K70 hK70 => region_wl ?_)
    refine do_ rfl (.int .i64 ((i : Nat) : Int)) (ex_move _) ?_
    simp only [pS, pN, pA, pC, pZ]
    refine do_ rfl (.int .i64 ((i : Nat) : Int)) (ex_assign _) ?_
    simp only [pS, pN, pA, pC, pZ]
    refine wl_nil (hK70 _ _ ?_)
    obtain ⟨xi, hxi⟩ : ∃ x, rest[i]? = some x := ⟨_, List.getElem?_eq_getElem (by omega)⟩
    obtain ⟨b71, o72, ha73, c74⟩ := Bs.get hrest hxi
    refine region_gw F37 13 [] (by kernel_rfl) (by kernel_rfl) ?_
    simp only [List.take_succ_cons, List.take_zero]
    refine gw_pure rfl rfl (.int .i64 ((i : Nat) : Int)) (fun w75 hCw75 => pureAt_of (ex_move _)) ?_
    simp only [pS, pN, pA, pC, pZ]
    refine gw_pure rfl rfl (.int .i64 (((i / 8) : Nat) : Int)) (fun w75 hCw75 => pureAt_of (ex_quoA (m := i) (n := 8) rfl rfl (by decide) (by omega))) ?_
    simp only [pS, pN, pA, pC, pZ]
    refine gw_pure rfl rfl (.pointer (some ⟨n42, (i / 8), none⟩)) (fun w75 hCw75 => pureAt_of (ex_atA (i := (i / 8)) Tryd.underlying90 (sizeof_88 _) rfl rfl (by omega))) ?_
    simp only [pS, pN, pA, pC, pZ]
    refine gw_pure rfl rfl (laneV (at0 (mixL Z rest i) (i / 8))) (fun w75 hCw75 => pureAt_of (ex_load rfl (load1 (nagg_88 _) (St.cell (St.tells S64 hCw75) (i := 0) rfl (lanes_at (Nat.lt_of_lt_of_eq (show (i / 8) < 25 by omega) ((mix_len _ _ _).trans hZ).symm)))))) ?_
    simp only [pS, pN, pA, pC, pZ]
    refine gw_pure rfl rfl (.slice ra rn rc) (fun w75 hCw75 => pureAt_of (ex_move _)) ?_
    simp only [pS, pN, pA, pC, pZ]
    refine gw_pure rfl rfl (.int .i64 ((i : Nat) : Int)) (fun w75 hCw75 => pureAt_of (ex_move _)) ?_
    simp only [pS, pN, pA, pC, pZ]
    refine gw_pure rfl rfl (.pointer (some ⟨b71, o72 + i * 1, none⟩)) (fun w75 hCw75 => pureAt_of (ex_at (i := i) (sz := 1) Tryd.underlying22 (sizeof_5 _) rfl ha73 rfl (by omega) rfl)) ?_
    simp only [pS, pN, pA, pC, pZ]
    refine gw_pure rfl rfl (bv xi) (fun w75 hCw75 => pureAt_of (ex_load rfl (load1 (nagg_5 _) (St.fz (St.tells S64 hCw75) c74)))) ?_
    simp only [pS, pN, pA, pC, pZ]
    refine gw_pure rfl rfl (laneV (BitVec.ofNat 64 xi.toNat)) (fun w75 hCw75 => pureAt_of (ex_convert (v := (bv xi)) rfl (conv_u64 xi _))) ?_
    simp only [pS, pN, pA, pC, pZ]
    refine gw_pure rfl rfl (.int .i64 ((i : Nat) : Int)) (fun w75 hCw75 => pureAt_of (ex_move _)) ?_
    simp only [pS, pN, pA, pC, pZ]
    refine gw_pure rfl rfl (.int .i64 (((i % 8) : Nat) : Int)) (fun w75 hCw75 => pureAt_of (ex_remA (m := i) (n := 8) rfl rfl (by decide) (by omega))) ?_
    simp only [pS, pN, pA, pC, pZ]
    refine gw_pure rfl rfl (.int .i64 ((((i % 8) * 8) : Nat) : Int)) (fun w75 hCw75 => pureAt_of (ex_mul (m := (((i % 8) : Nat) : Int)) (n := (8 : Int)) (r := ((((i % 8) * 8) : Nat) : Int)) rfl rfl (by omega) (by omega) (by omega))) ?_
    simp only [pS, pN, pA, pC, pZ]
    refine gw_pure rfl rfl (laneV ((BitVec.ofNat 64 xi.toNat) <<< ((i % 8) * 8))) (fun w75 hCw75 => pureAt_of (ex_shlL (n := ((i % 8) * 8)) rfl rfl (by omega))) ?_
    simp only [pS, pN, pA, pC, pZ]
    refine gw_nil ?_
    intro w76 hC78 hF79
    clear hF79
    have S77 := St.tells S64 hC78
    simp only [List.drop_succ_cons, List.drop_zero]
    refine do_ rfl (laneV ((at0 (mixL Z rest i) (i / 8)) ^^^ ((BitVec.ofNat 64 xi.toNat) <<< ((i % 8) * 8)))) (ex_xorL rfl rfl) ?_
    simp only [pS, pN, pA, pC, pZ]
    refine do_ rfl (.pointer (some ⟨n42, (i / 8), none⟩)) (ex_atA (i := (i / 8)) Tryd.underlying90 (sizeof_88 _) rfl rfl (by omega)) ?_
    simp only [pS, pN, pA, pC, pZ]
    refine stStore (i := 0) (v := laneV ((at0 (mixL Z rest i) (i / 8)) ^^^ ((BitVec.ofNat 64 xi.toNat) <<< ((i % 8) * 8)))) S77 rfl rfl rfl rfl (size_88) (allc1 rfl) (by rw [List.length_map, ((mix_len _ _ _).trans hZ)]; show (i / 8) + 1 ≤ 25; omega) (fun w80 S81 => ?_)
    simp only [pS, pN, pA, pC, pZ]
    have S81 : St w F w80 F37 [⟨n42, (splice ((mixL Z rest i).map laneV) (i / 8) [laneV ((at0 (mixL Z rest i) (i / 8)) ^^^ ((BitVec.ofNat 64 xi.toNat) <<< ((i % 8) * 8)))]), 90⟩] [] := S81
    rw [lanes_set (Nat.lt_of_lt_of_eq (show (i / 8) < 25 by omega) ((mix_len _ _ _).trans hZ).symm)] at S81
    rw [mix_step Z hxi] at S81
    refine wl_nil (hK69 _ _ ?_)
    refine region_wl ?_
    refine do_ rfl (.int .i64 (((i + 1) : Nat) : Int)) (ex_add (m := ((i : Nat) : Int)) (n := (1 : Int)) (r := (((i + 1) : Nat) : Int)) rfl rfl (by omega) (by omega) (by omega)) ?_
    simp only [pS, pN, pA, pC, pZ]
    refine do_ rfl (.int .i64 (((i + 1) : Nat) : Int)) (ex_move _) ?_
    simp only [pS, pN, pA, pC, pZ]
    refine wl_nil ?_
    exact hK66 _ _ _ (by omega) ⟨(i + 1), _, rfl, rfl, rfl, S81, (by omega)⟩
   ·refine do_ rfl (.bool false) (ex_lss (m := ((i : Nat) : Int)) (n := (136 : Int)) (b := false) rfl rfl (decide_eq_false (by omega))) ?_
    simp only [pS, pN, pA, pC, pZ]
    refine wl_nil (hK67 _ _ ?_)
    refine wp_seq_k (fun K82 hK82 => ?_)
    refine wp_cond_false rfl ?_
    refine wp_exit ?_
    refine hK57 _ _ ?_
    refine wp_seq_k (fun K83 hK83 => ?_)
    obtain rfl : i = 136 := by omega
    obtain ⟨Xm, hXm⟩ : ∃ X, X = mixL Z rest 136 := ⟨_, rfl⟩
    have hXl : Xm.length = 25 := by rw [hXm]; exact (mix_len _ _ _).trans hZ
    rw [← hXm] at S64
    refine region_wl ?_
    refine do_ rfl (.int .i64 0) (ex_move _) ?_
    simp only [pS, pN, pA, pC, pZ]
    refine wl_nil (hK83 _ _ ?_)
    refine wp_block ?_
    have S64 : St w F w63 F37 [⟨n42, ((stirsL Xm 0).map laneV), 90⟩] [] := by rw [stirs_zero]; exact S64
    refine wp_loop_g (fun mm aa w85 => ∃ (q : Nat) (u84 : Nat → Value), mm = 24 - q ∧ u84 = slots aa ∧ aa = ⟨#[(.slice x b.length y), undef, (.slice none 0 0), (.slice ra rn rc), (.pointer (some ⟨n42, 0, none⟩)), (u59 5), (u84 6), undef, undef, (.slice x b.length y), v4, (.slice (some ⟨n8, 0, none⟩) 1 1), v11, (.slice (some ⟨g31, 0, none⟩) (padK b (padN b)).length cap27), (.int .i64 (((padK b (padN b)).length : Nat) : Int)), (.int .i64 ((((padK b (padN b)).length % 136) : Nat) : Int)), (.bool false), (u16 17), (u16 18), (u16 19), (.slice (some ⟨g31, 0, none⟩) (padK b (padN b)).length cap27), (.slice (some ⟨g31, 0, none⟩) (padK b (padN b)).length cap27), (.int .i64 (((padK b (padN b)).length : Nat) : Int)), (.int .i64 ((((padK b (padN b)).length - 1) : Nat) : Int)), (.pointer (some ⟨g31, 0 + ((padK b (padN b)).length - 1) * 1, none⟩)), (bv xb), (bv (xb ||| 128)), (.pointer (some ⟨g31, 0 + ((padK b (padN b)).length - 1) * 1, none⟩)), (.slice ra rn rc), (.int .i64 ((rn : Nat) : Int)), (.bool true), (u46 31), (u46 32), (.int .i64 136), (.bool false), (u59 35), (u59 36), (u59 37), (u59 38), (u59 39), (u59 40), (u59 41), (u59 42), (u59 43), (u59 44), (u59 45), (u59 46), (u59 47), (u59 48), (u59 49), (u59 50), (u59 51), (.int .i64 ((q : Nat) : Int)), (u84 53), (u84 54), (u84 55), (u84 56), (u84 57), undef, undef, undef, undef, undef, undef, undef, undef, undef, undef, undef, undef, undef, undef, undef, undef, undef, undef, undef, undef], []⟩ ∧ St w F w85 F37 [⟨n42, ((stirsL Xm q).map laneV), 90⟩] [] ∧ (q ≤ 24)) _ ⟨0, _, rfl, rfl, rfl, S64, (by omega)⟩ ?_
    rintro m86 a87 w88 ⟨q, u84, rfl, -, rfl, S89, hq⟩ K91 hK91
    refine wp_seq_k (fun K92 hK92 => region_wl ?_)
    by_cases hc53 : q < 24
    ·refine do_ rfl (.bool true) (ex_lss (m := ((q : Nat) : Int)) (n := (24 : Int)) (b := true) rfl rfl (decide_eq_true (by omega))) ?_
     simp only [pS, pN, pA, pC, pZ]
     refine wl_nil (hK92 _ _ ?_)
     refine wp_seq_k (fun K93 hK93 => ?_)
     refine wp_cond_true rfl ?_
     refine wp_skip ?_
     refine hK93 _ _ ?_
     refine wp_seq_k (fun K94 hK94 => ?_)
     refine wp_block ?_
     refine wp_seq_k (fun K95 hK95 => region_wl ?_)
     refine do_ rfl (.int .i64 ((q : Nat) : Int)) (ex_move _) ?_
     simp only [pS, pN, pA, pC, pZ]
     refine do_ rfl (.int .i64 ((q : Nat) : Int)) (ex_assign _) ?_
     simp only [pS, pN, pA, pC, pZ]
     refine wl_nil (hK95 _ _ ?_)
     refine region_wl ?_
     refine do_ rfl (.int .i64 ((q : Nat) : Int)) (ex_move _) ?_
     simp only [pS, pN, pA, pC, pZ]
     refine stStir rfl (ex_fn (vs := #[(.pointer (some ⟨n42, 0, none⟩)), (.int .i64 ((q : Nat) : Int))]) (map2 rfl rfl) rfl (ent_53 _ _)) (stir_spec S89 (stirs_len hXl _) hT (by omega)) (fun w96 S97 => ?_)
     simp only [pS, pN, pA, pC, pZ]
     have S97 : St w F w96 F37 [⟨n42, ((stirL (stirsL Xm q) q).map laneV), 90⟩] [] := S97
     rw [stirs_step] at S97
     refine wl_nil (hK94 _ _ ?_)
     refine region_wl ?_
     refine do_ rfl (.int .i64 (((q + 1) : Nat) : Int)) (ex_add (m := ((q : Nat) : Int)) (n := (1 : Int)) (r := (((q + 1) : Nat) : Int)) rfl rfl (by omega) (by omega) (by omega)) ?_
     simp only [pS, pN, pA, pC, pZ]
     refine do_ rfl (.int .i64 (((q + 1) : Nat) : Int)) (ex_move _) ?_
     simp only [pS, pN, pA, pC, pZ]
     refine wl_nil ?_
     exact hK91 _ _ _ (by omega) ⟨(q + 1), _, rfl, rfl, rfl, S97, (by omega)⟩
    ·refine do_ rfl (.bool false) (ex_lss (m := ((q : Nat) : Int)) (n := (24 : Int)) (b := false) rfl rfl (decide_eq_false (by omega))) ?_
     simp only [pS, pN, pA, pC, pZ]
     refine wl_nil (hK92 _ _ ?_)
     refine wp_seq_k (fun K98 hK98 => ?_)
     refine wp_cond_false rfl ?_
     refine wp_exit ?_
     refine hK56 _ _ ?_
     obtain rfl : q = 24 := by omega
     refine region_wl ?_
     refine do_ rfl (.slice ra rn rc) (ex_move _) ?_
     simp only [pS, pN, pA, pC, pZ]
     have hcap : rest.length ≤ rc := by obtain ⟨_, _, e, q, _⟩ := hrest.shape; injection e with _ _ e; rw [e]; exact q
     have r99 : Bs _ (.slice (if rc = 136 then ra else ra.map (·.add (136 * 1))) (rn - 136) (rc - 136)) (rest.drop 136) := Bs.restD hrest (by omega)
     refine do_ rfl (.slice (if rc = 136 then ra else ra.map (·.add (136 * 1))) (rn - 136) (rc - 136)) (ex_slice (l := 136) (h := rn) (sz := 1) Tryd.underlying22 rfl (sizeof_5 _) (.inr ⟨_, rfl, rfl⟩) (.inl ⟨rfl, rfl⟩) (by omega) (by omega) (rfl)) ?_
     simp only [pS, pN, pA, pC, pZ]
     refine do_ rfl (.slice (if rc = 136 then ra else ra.map (·.add (136 * 1))) (rn - 136) (rc - 136)) (ex_assign _) ?_
     simp only [pS, pN, pA, pC, pZ]
     refine wl_nil ?_
     have hdl : (rest.drop 136).length = rest.length - 136 := by simp
     exact hK53 _ _ _ (by omega) ⟨(stirsL Xm 24), (if rc = 136 then ra else ra.map (·.add (136 * 1))), (rn - 136), (rc - 136), (rest.drop 136), _, rfl, rfl, rfl, S89, (stirs_len hXl 24), r99, (by omega), (by omega), (absorb_at hXm (by omega) hab)⟩
  ·refine do_ rfl (.bool false) (ex_gtr (m := ((rn : Nat) : Int)) (n := (0 : Int)) (b := false) rfl rfl (decide_eq_false (by omega))) ?_
   simp only [pS, pN, pA, pC, pZ]
   refine wl_nil (hK55 _ _ ?_)
   refine wp_cond_false rfl ?_
   refine wp_exit ?_
   refine hK45 _ _ ?_
   refine wp_seq_k (fun K100 hK100 => ?_)
   have hZa := absorb_end (by omega) hab
   refine region_wl ?_
   refine stMake (k := 1) (n := 32) (m := 32) S51 rfl i5 (.int .u8 0) 1 Tryd.underlying22 hi5 hz5 hs5 hb5 rfl rfl (by omega) (by omega) (by omega) ?_
   intro g101 w102 S103
   rw [made_bytes] at S103
   simp only [pS, pN, pA, pC, pZ]
   have S103 : St w F w102 F37 [⟨g101, ((List.replicate 32 (0 : UInt8)).map bv), 5⟩, ⟨n42, (Z.map laneV), 90⟩] [] := S103
   have S103 : St w F w102 F37 [⟨g101, ((outK Z 0).map bv), 5⟩, ⟨n42, (Z.map laneV), 90⟩] [] := by rw [outK_zero]; exact S103
   refine do_ rfl (.slice (some ⟨g101, 0, none⟩) 32 32) (ex_assign _) ?_
   simp only [pS, pN, pA, pC, pZ]
   refine wl_nil (hK100 _ _ ?_)
   refine wp_seq_k (fun K104 hK104 => ?_)
   refine wp_seq_k (fun K105 hK105 => region_wl ?_)
   refine do_ rfl (.slice (some ⟨g101, 0, none⟩) 32 32) (ex_move _) ?_
   simp only [pS, pN, pA, pC, pZ]
   refine do_ rfl (.int .i64 32) (ex_len Tryd.underlying22 rfl) ?_
   simp only [pS, pN, pA, pC, pZ]
   refine do_ rfl (.int .i64 0) (ex_move _) ?_
   simp only [pS, pN, pA, pC, pZ]
   refine wl_nil (hK105 _ _ ?_)
   refine wp_block ?_
   refine wp_loop_g (fun mm aa w107 => ∃ (j : Nat) (u106 : Nat → Value), mm = 32 - j ∧ u106 = slots aa ∧ aa = ⟨#[(.slice x b.length y), undef, (.slice none 0 0), (.slice ra rn rc), (.pointer (some ⟨n42, 0, none⟩)), (u46 5), (u46 6), (.slice (some ⟨g101, 0, none⟩) 32 32), (u106 8), (.slice x b.length y), v4, (.slice (some ⟨n8, 0, none⟩) 1 1), v11, (.slice (some ⟨g31, 0, none⟩) (padK b (padN b)).length cap27), (.int .i64 (((padK b (padN b)).length : Nat) : Int)), (.int .i64 ((((padK b (padN b)).length % 136) : Nat) : Int)), (.bool false), (u16 17), (u16 18), (u16 19), (.slice (some ⟨g31, 0, none⟩) (padK b (padN b)).length cap27), (.slice (some ⟨g31, 0, none⟩) (padK b (padN b)).length cap27), (.int .i64 (((padK b (padN b)).length : Nat) : Int)), (.int .i64 ((((padK b (padN b)).length - 1) : Nat) : Int)), (.pointer (some ⟨g31, 0 + ((padK b (padN b)).length - 1) * 1, none⟩)), (bv xb), (bv (xb ||| 128)), (.pointer (some ⟨g31, 0 + ((padK b (padN b)).length - 1) * 1, none⟩)), (.slice ra rn rc), (.int .i64 ((rn : Nat) : Int)), (.bool false), (u46 31), (u46 32), (u46 33), (u46 34), (u46 35), (u46 36), (u46 37), (u46 38), (u46 39), (u46 40), (u46 41), (u46 42), (u46 43), (u46 44), (u46 45), (u46 46), (u46 47), (u46 48), (u46 49), (u46 50), (u46 51), (u46 52), (u46 53), (u46 54), (u46 55), (u46 56), (u46 57), (.slice (some ⟨g101, 0, none⟩) 32 32), (.slice (some ⟨g101, 0, none⟩) 32 32), (.int .i64 32), (.int .i64 ((j : Nat) : Int)), (u106 62), (u106 63), (u106 64), (u106 65), (u106 66), (u106 67), (u106 68), (u106 69), (u106 70), (u106 71), (u106 72), (u106 73), (u106 74), (u106 75), (u106 76), undef], []⟩ ∧ St w F w107 F37 [⟨g101, ((outK Z j).map bv), 5⟩, ⟨n42, (Z.map laneV), 90⟩] [] ∧ (j ≤ 32)) _ ⟨0, _, rfl, rfl, rfl, S103, (by omega)⟩ ?_
   rintro m108 a109 w110 ⟨j, u106, rfl, -, rfl, S111, hj⟩ K113 hK113
   refine wp_seq_k (fun K114 hK114 => region_wl ?_)
   by_cases hc62 : j < 32
   ·refine do_ rfl (.bool true) (ex_lss (m := ((j : Nat) : Int)) (n := (32 : Int)) (b := true) rfl rfl (decide_eq_true (by omega))) ?_
    simp only [pS, pN, pA, pC, pZ]
    refine wl_nil (hK114 _ _ ?_)
    refine wp_seq_k (fun K115 hK115 => ?_)
    refine wp_cond_true rfl ?_
    refine wp_skip ?_
    refine hK115 _ _ ?_
    refine wp_seq_k (fun K116 hK116 => ?_)
    refine wp_block ?_
    refine wp_seq_k (fun K117 hK117 => region_wl ?_)
    refine do_ rfl (.int .i64 ((j : Nat) : Int)) (ex_move _) ?_
    simp only [pS, pN, pA, pC, pZ]
    refine do_ rfl (.int .i64 ((j : Nat) : Int)) (ex_assign _) ?_
    simp only [pS, pN, pA, pC, pZ]
    refine wl_nil (hK117 _ _ ?_)
    refine region_wl ?_
    refine do_ rfl (.slice (some ⟨g101, 0, none⟩) 32 32) (ex_move _) ?_
    simp only [pS, pN, pA, pC, pZ]
    refine do_ rfl (.int .i64 ((j : Nat) : Int)) (ex_move _) ?_
    simp only [pS, pN, pA, pC, pZ]
    refine do_ rfl (.int .i64 ((j : Nat) : Int)) (ex_move _) ?_
    simp only [pS, pN, pA, pC, pZ]
    refine do_ rfl (.int .i64 (((j / 8) : Nat) : Int)) (ex_quoA (m := j) (n := 8) rfl rfl (by decide) (by omega)) ?_
    simp only [pS, pN, pA, pC, pZ]
    refine do_ rfl (.pointer (some ⟨n42, (j / 8), none⟩)) (ex_atA (i := (j / 8)) Tryd.underlying90 (sizeof_88 _) rfl rfl (by omega)) ?_
    simp only [pS, pN, pA, pC, pZ]
    refine do_ rfl (laneV (at0 Z (j / 8))) (ex_load rfl (load1 (nagg_88 _) (St.cell S111 (i := 1) rfl (lanes_at (Nat.lt_of_lt_of_eq (show (j / 8) < 25 by omega) hZ.symm))))) ?_
    simp only [pS, pN, pA, pC, pZ]
    refine do_ rfl (.int .i64 ((j : Nat) : Int)) (ex_move _) ?_
    simp only [pS, pN, pA, pC, pZ]
    refine do_ rfl (.int .i64 (((j % 8) : Nat) : Int)) (ex_remA (m := j) (n := 8) rfl rfl (by decide) (by omega)) ?_
    simp only [pS, pN, pA, pC, pZ]
    refine do_ rfl (.int .i64 ((((j % 8) * 8) : Nat) : Int)) (ex_mul (m := (((j % 8) : Nat) : Int)) (n := (8 : Int)) (r := ((((j % 8) * 8) : Nat) : Int)) rfl rfl (by omega) (by omega) (by omega)) ?_
    simp only [pS, pN, pA, pC, pZ]
    refine do_ rfl (laneV ((at0 Z (j / 8)) >>> ((j % 8) * 8))) (ex_shrL (n := ((j % 8) * 8)) rfl rfl (by omega)) ?_
    simp only [pS, pN, pA, pC, pZ]
    refine do_ rfl (bv (UInt8.ofNat (((at0 Z (j / 8)) >>> ((j % 8) * 8)).toNat % 256))) (ex_convert (v := (laneV ((at0 Z (j / 8)) >>> ((j % 8) * 8)))) rfl (conv_low ((at0 Z (j / 8)) >>> ((j % 8) * 8)) _)) ?_
    simp only [pS, pN, pA, pC, pZ]
    refine do_ rfl (.pointer (some ⟨g101, 0 + j * 1, none⟩)) (ex_at (i := j) (sz := 1) Tryd.underlying22 (sizeof_5 _) rfl rfl rfl (by omega) rfl) ?_
    simp only [pS, pN, pA, pC, pZ]
    refine stStore (i := 0) (v := bv (UInt8.ofNat (((at0 Z (j / 8)) >>> ((j % 8) * 8)).toNat % 256))) S111 rfl rfl rfl rfl (size_5) (allc1 rfl) (by rw [List.length_map, outK_len]; show 0 + j * 1 + 1 ≤ 32; omega) (fun w118 S119 => ?_)
    simp only [pS, pN, pA, pC, pZ]
    have S119 : St w F w118 F37 [⟨g101, (splice ((outK Z j).map bv) (0 + j * 1) [bv (UInt8.ofNat (((at0 Z (j / 8)) >>> ((j % 8) * 8)).toNat % 256))]), 5⟩, ⟨n42, (Z.map laneV), 90⟩] [] := S119
    rw [Nat.zero_add, Nat.mul_one, bytes_set (by rw [outK_len]; omega)] at S119
    have S119 : St w F w118 F37 [⟨g101, (((outK Z j).set j (outAt Z j)).map bv), 5⟩, ⟨n42, (Z.map laneV), 90⟩] [] := S119
    rw [outK_step Z (by omega)] at S119
    refine wl_nil (hK116 _ _ ?_)
    refine region_wl ?_
    refine do_ rfl (.int .i64 (((j + 1) : Nat) : Int)) (ex_add (m := ((j : Nat) : Int)) (n := (1 : Int)) (r := (((j + 1) : Nat) : Int)) rfl rfl (by omega) (by omega) (by omega)) ?_
    simp only [pS, pN, pA, pC, pZ]
    refine do_ rfl (.int .i64 (((j + 1) : Nat) : Int)) (ex_move _) ?_
    simp only [pS, pN, pA, pC, pZ]
    refine wl_nil ?_
    exact hK113 _ _ _ (by omega) ⟨(j + 1), _, rfl, rfl, rfl, S119, (by omega)⟩
   ·refine do_ rfl (.bool false) (ex_lss (m := ((j : Nat) : Int)) (n := (32 : Int)) (b := false) rfl rfl (decide_eq_false (by omega))) ?_
    simp only [pS, pN, pA, pC, pZ]
    refine wl_nil (hK114 _ _ ?_)
    refine wp_seq_k (fun K120 hK120 => ?_)
    refine wp_cond_false rfl ?_
    refine wp_exit ?_
    refine hK104 _ _ ?_
    refine wp_seq_k (fun K121 hK121 => ?_)
    obtain rfl : j = 32 := by omega
    rw [outK_all] at S111
    refine region_wl ?_
    refine do_ rfl (.slice (some ⟨g101, 0, none⟩) 32 32) (ex_move _) ?_
    simp only [pS, pN, pA, pC, pZ]
    refine do_ rfl (.slice (some ⟨g101, 0, none⟩) 32 32) (ex_assign _) ?_
    simp only [pS, pN, pA, pC, pZ]
    refine wl_nil (hK121 _ _ ?_)
    refine wp_ret ?_
    (try simp only [Exit.then, Exit.inBlock, ↓reduceIte, Nat.reduceEqDiff])
    refine bodyPost_ret (v := (.slice (some ⟨g101, 0, none⟩) 32 32)) ?_ rfl ?_
    ·exact res_t rfl rfl
    ·obtain ⟨S122, le123, hc124⟩ := St.freezeBlk S111 (i := 0) rfl
     have r126 := bs_of_block (l := outL Z) hc124 rfl (by rw [outL_len]; unfold maxLen; decide)
     rw [outL_len] at r126
     generalize addF F37 w110 g101 = F125 at *
     have S122 : St w F w110 F125 [⟨n42, (Z.map laneV), 90⟩] [] := S122
     refine ⟨_, _, rfl, S122.gr, ?_⟩
     unfold sumL
     rw [← hZa]
     exact r126
 ·refine do_ rfl (.bool true) (ex_neq (m := ((((padK b k).length % 136) : Nat) : Int)) (n := (0 : Int)) (b := true) rfl rfl (bne_iff_ne.2 (by omega))) ?_
  simp only [pS, pN, pA, pC, pZ]
  refine wl_nil (hK25 _ _ ?_)
  refine wp_cond_true rfl ?_
  refine wp_skip ?_
  refine hK24 _ _ ?_
  refine wp_block ?_
  refine region_wl ?_
  refine do_ rfl (.slice a26 (padK b k).length cap27) (ex_move _) ?_
  simp only [pS, pN, pA, pC, pZ]
  refine stNew S21 (v := fun n => .slice (some ⟨n, 0, none⟩) 1 1) rfl (ex_lit (ps := #[(0, (.int .u8 0))]) (cells := #[(.int .u8 0)]) (E := 5) (bmap1 rfl) (fun w => by kernel_rfl)) (fun n127 w128 S129 => ?_)
  simp only [pS, pN, pA, pC, pZ]
  have S129 : St w F w128 F [⟨n127, [(.int .u8 0)], 5⟩] [ownP 1 ByC ByC.mono 5 w.heap.size (.slice a26 (padK b k).length cap27) (padK b k)] := S129
  refine stPush (i := 0) (r := 0) (p := (0 : UInt8)) (cs := [(.int .u8 0)]) S129 rfl i5 (.int .u8 0) 1 Tryd.underlying22 hi5 hz5 hs5 hb5 rfl (by decide) rfl rfl rfl rfl rfl (bv_one 0) (rfl) (Nat.le_refl _) S129.gr.below.size (by unfold maxLen; omega) (by omega) ?_
  intro v130 w131 S132 hn133
  simp only [pS, pN, pA, pC, pZ]
  have S132 := St.drop S132 (L' := []) (.cons _ (List.Sublist.refl _))
  have S132 : St w F w131 F [] [ownP 1 ByC ByC.mono 5 w.heap.size v130 ((padK b k) ++ [(0 : UInt8)])] := S132
  refine do_ rfl v130 (ex_assign _) ?_
  simp only [pS, pN, pA, pC, pZ]
  refine wl_nil ?_
  rw [padK_step] at S132
  have hk2 : k + 1 ≤ padN b := by unfold padN at *; omega
  exact hK23 _ _ _ (by omega) ⟨(k + 1), v130, _, rfl, rfl, rfl, S132, hk2⟩
end Go.Proofs.YtcanckliggcllaaDoor
namespace Go.Proofs.YtcanckliggcllaaDoor
open Go.RowKit
set_option maxRecDepth 100000
set_option linter.unusedVariables false
set_option linter.unusedSimpArgs false
/-- A slice of byte slices. -/
def LsC (F : Fz) (cs : List Value) (p : By) : Prop := ∃ a, cs = [a] ∧ Bs F a p
theorem LsC.mono (F F' : Fz) (x : List Value) (p : By) (hl : Le F F') (h : LsC F x p) : LsC F' x p := by
  obtain ⟨a, h1, h2⟩ := h
  exact ⟨a, h1, h2.mono hl⟩
abbrev Lss (F : Fz) (v : Value) (l : List By) : Prop := Sl 1 LsC F v l
theorem Lss.get {F : Fz} {a : Option Addr} {n c : Nat} {l : List By} (h : Lss F (.slice a n c) l) {i : Nat} {p : By} (hp : l[i]? = some p) :
    ∃ b o, a = some ⟨b, o, none⟩ ∧ ∃ xa xc, cellF F b (o + i * 1) = some (.slice xa p.length xc) ∧ Bs F (.slice xa p.length xc) p := by
  obtain ⟨hi, rfl⟩ := List.getElem?_eq_some_iff.1 hp
  have hn := h.len
  obtain ⟨b, o, e, h1⟩ := Sl.at h (by omega) (by omega)
  obtain ⟨cs, q1, ⟨x, rfl, r1⟩, q4⟩ := h1 i hi
  obtain ⟨xa, xc, rfl, _⟩ := r1.shape
  exact ⟨b, o, e, xa, xc, by have := q4 0 (by simp); simpa using this, r1⟩
theorem Lss.mono {F F' : Fz} {v : Value} {l : List By} (h : Lss F v l) (hl : Le F F') : Lss F' v l := Sl.mono LsC.mono h hl
def SumR (b : By) (e : Int) (F : Fz) (u : Value) : Prop := ∃ x, u = .tuple #[x, .int .i64 e] ∧ Bs F x b
theorem partB_eq (p : By) (h : p.length < 65536) : partB p = b8 (p.length / 256) :: b8 p.length :: p := by
  unfold partB b8
  congr 2
  apply UInt8.toNat_inj.1; simp
set_option maxHeartbeats 8000000 in
theorem Sum_spec (F : Fz) (w : World) (v : Value) (b : By) (hs : Sat w F) (hT : Tabs w) (hb : Bs F v b) (hn : b.length ≤ 4000) :
    Calls Tryd.prog 15 #[v] w (Gives w F (SumR (sumL b) 0)) := by
 obtain ⟨x, y, rfl, hc1', hc2'⟩ := hb.shape
 unfold maxLen at hc2'
 have S := St.start hs
 go_enter Tryd.func15, Tryd.ntmps15
 refine wp_seq_k (fun K1 hK1 => region_wl ?_)
 refine do_ rfl (.slice none 0 0) (ex_assign _) ?_
 simp only [pS, pN, pA, pC, pZ]
 refine do_ rfl (.int .i64 0) (ex_assign _) ?_
 simp only [pS, pN, pA, pC, pZ]
 refine wl_nil (hK1 _ _ ?_)
 refine wp_seq_k (fun K2 hK2 => ?_)
 refine wp_seq_k (fun K3 hK3 => region_wl ?_)
 refine do_ rfl (.slice x b.length y) (ex_move _) ?_
 simp only [pS, pN, pA, pC, pZ]
 refine do_ rfl (.int .i64 ((b.length : Nat) : Int)) (ex_len Tryd.underlying22 rfl) ?_
 simp only [pS, pN, pA, pC, pZ]
 refine do_ rfl (.bool false) (ex_gtr (m := ((b.length : Nat) : Int)) (n := (4000 : Int)) (b := false) rfl rfl (decide_eq_false (by omega))) ?_
 simp only [pS, pN, pA, pC, pZ]
 refine wl_nil (hK3 _ _ ?_)
 refine wp_cond_false rfl ?_
 refine wp_skip ?_
 refine hK2 _ _ ?_
 refine wp_seq_k (fun K4 hK4 => region_wl ?_)
 refine do_ rfl (.slice x b.length y) (ex_move _) ?_
 simp only [pS, pN, pA, pC, pZ]
 refine stGives S rfl (ex_fn (vs := #[(.slice x b.length y)]) (map1 rfl) rfl (ent_36 _ _)) (sum_spec _ _ _ b (S).sat (hT.at S.gr.below) hb (by omega)) ?_
 intro v10 w5 F7 S6 le8 R9
 obtain ⟨xa11, xc12, rfl, _⟩ := R9.shape
 simp only [pS, pN, pA, pC, pZ]
 refine do_ rfl (.slice xa11 (sumL b).length xc12) (ex_assign _) ?_
 simp only [pS, pN, pA, pC, pZ]
 refine do_ rfl (.int .i64 0) (ex_assign _) ?_
 simp only [pS, pN, pA, pC, pZ]
 refine wl_nil (hK4 _ _ ?_)
 refine wp_ret ?_
 (try simp only [Exit.then, Exit.inBlock, ↓reduceIte, Nat.reduceEqDiff])
 refine bodyPost_ret (v := (.tuple #[(.slice xa11 (sumL b).length xc12), (.int .i64 0)])) ?_ rfl ?_
 ·exact res_tt rfl rfl rfl
 ·exact ⟨_, _, rfl, S6.gr, _, rfl, R9⟩
set_option maxHeartbeats 8000000 in
theorem SumBig_spec (F : Fz) (w : World) (v : Value) (b : By) (hs : Sat w F) (hb : Bs F v b) (hn : 4000 < b.length) :
    Calls Tryd.prog 15 #[v] w (Tells w (.tuple #[.slice none 0 0, .int .i64 1])) := by
 obtain ⟨x, y, rfl, hc1', hc2'⟩ := hb.shape
 unfold maxLen at hc2'
 have S := St.start hs
 go_enter Tryd.func15, Tryd.ntmps15
 refine wp_seq_k (fun K1 hK1 => region_wl ?_)
 refine do_ rfl (.slice none 0 0) (ex_assign _) ?_
 simp only [pS, pN, pA, pC, pZ]
 refine do_ rfl (.int .i64 0) (ex_assign _) ?_
 simp only [pS, pN, pA, pC, pZ]
 refine wl_nil (hK1 _ _ ?_)
 refine wp_seq_k (fun K2 hK2 => ?_)
 refine wp_seq_k (fun K3 hK3 => region_wl ?_)
 refine do_ rfl (.slice x b.length y) (ex_move _) ?_
 simp only [pS, pN, pA, pC, pZ]
 refine do_ rfl (.int .i64 ((b.length : Nat) : Int)) (ex_len Tryd.underlying22 rfl) ?_
 simp only [pS, pN, pA, pC, pZ]
 refine do_ rfl (.bool true) (ex_gtr (m := ((b.length : Nat) : Int)) (n := (4000 : Int)) (b := true) rfl rfl (decide_eq_true (by omega))) ?_
 simp only [pS, pN, pA, pC, pZ]
 refine wl_nil (hK3 _ _ ?_)
 refine wp_cond_true rfl ?_
 refine wp_seq_k (fun K4 hK4 => region_wl ?_)
 refine do_ rfl (.slice none 0 0) (ex_assign _) ?_
 simp only [pS, pN, pA, pC, pZ]
 refine do_ rfl (.int .i64 1) (ex_assign _) ?_
 simp only [pS, pN, pA, pC, pZ]
 refine wl_nil (hK4 _ _ ?_)
 refine wp_ret ?_
 (try simp only [Exit.then, Exit.inBlock, ↓reduceIte, Nat.reduceEqDiff])
 refine bodyPost_ret (v := (.tuple #[(.slice none 0 0), (.int .i64 1)])) ?_ rfl ?_
 ·exact res_tt rfl rfl rfl
 ·exact ⟨rfl, S.gr.below⟩
theorem partB_len (p : By) : (partB p).length = 2 + p.length := by simp [partB]; omega
theorem parts_step {k : UInt8} {ps : List By} {i : Nat} {p : By} (hp : ps[i]? = some p) (h : p.length < 65536) : ((k :: (ps.take i).flatMap partB) ++ [b8 (p.length / 256), b8 p.length]) ++ p = k :: (ps.take (i + 1)).flatMap partB := by
  rw [take_snoc hp, List.flatMap_append]
  simp [partB_eq p h]
theorem parts_len {ps : List By} (i : Nat) : ((ps.take i).flatMap partB).length ≤ (ps.flatMap partB).length := by
  conv => rhs; rw [← List.take_append_drop i ps, List.flatMap_append, List.length_append]
  omega
theorem parts_at {ps : List By} {i : Nat} {p : By} (hp : ps[i]? = some p) : ((ps.take i).flatMap partB).length + 2 + p.length ≤ (ps.flatMap partB).length := by
  have := parts_len (ps := ps) (i + 1)
  rw [take_snoc hp, List.flatMap_append, List.length_append] at this
  simp only [List.flatMap_cons, List.flatMap_nil, List.append_nil, partB_len] at this
  omega
set_option maxHeartbeats 8000000 in
theorem Parts_spec (F : Fz) (w : World) (v : Value) (kd : UInt8) (ps : List By) (hs : Sat w F) (hT : Tabs w) (hp : Lss F v ps) (hn : (ps.flatMap partB).length ≤ 3999) :
    Calls Tryd.prog 20 #[bv kd, v] w (Gives w F (SumR (partsL kd ps) 0)) := by
 obtain ⟨x, y, rfl, hc1', hc2'⟩ := Sl.shape hp
 unfold maxLen at hc2'
 obtain ⟨i5, hi5, hz5, hs5, hb5⟩ := info_parts infoU8
 have S := St.start hs
 go_enter Tryd.func20, Tryd.ntmps20
 refine wp_seq_k (fun K1 hK1 => region_wl ?_)
 refine do_ rfl (.slice none 0 0) (ex_assign _) ?_
 simp only [pS, pN, pA, pC, pZ]
 refine do_ rfl (.int .i64 0) (ex_assign _) ?_
 simp only [pS, pN, pA, pC, pZ]
 refine wl_nil (hK1 _ _ ?_)
 refine wp_seq_k (fun K2 hK2 => region_wl ?_)
 refine do_ rfl (bv kd) (ex_move _) ?_
 simp only [pS, pN, pA, pC, pZ]
 refine stNew S (v := fun n => .slice (some ⟨n, 0, none⟩) 1 1) rfl (ex_lit (ps := #[(0, (bv kd))]) (cells := #[(bv kd)]) (E := 5) (bmap1 rfl) (fun w => by kernel_rfl)) (fun n3 w4 S5 => ?_)
 simp only [pS, pN, pA, pC, pZ]
 have S5 : St w F w4 F [⟨n3, [(bv kd)], 5⟩] [] := S5
 refine do_ rfl (.slice (some ⟨n3, 0, none⟩) 1 1) (ex_assign _) ?_
 simp only [pS, pN, pA, pC, pZ]
 refine wl_nil (hK2 _ _ ?_)
 refine wp_seq_k (fun K6 hK6 => ?_)
 refine wp_seq_k (fun K7 hK7 => region_wl ?_)
 refine do_ rfl (.slice x ps.length y) (ex_move _) ?_
 simp only [pS, pN, pA, pC, pZ]
 refine do_ rfl (.int .i64 ((ps.length : Nat) : Int)) (ex_len Tryd.underlying76 rfl) ?_
 simp only [pS, pN, pA, pC, pZ]
 refine do_ rfl (.int .i64 0) (ex_move _) ?_
 simp only [pS, pN, pA, pC, pZ]
 refine wl_nil (hK7 _ _ ?_)
 refine wp_block ?_
 have S8 : St w F w4 F [] [ownP 1 ByC ByC.mono 5 w.heap.size (.slice (some ⟨n3, 0, none⟩) 1 1) [kd]] := St.blkRow (k := 1) (l := [kd]) (el := [[bv kd]]) (hR := ByC.mono) S5 rfl ⟨rfl, trivial⟩ (by simp) rfl (by simp) (by unfold maxLen; decide) (S5.blk _ (List.mem_cons_self ..)).2.2
 have S8 : St w F w4 F [] [ownP 1 ByC ByC.mono 5 w.heap.size (.slice (some ⟨n3, 0, none⟩) 1 1) (kd :: (ps.take 0).flatMap partB)] := S8
 refine wp_loop_g (fun mm aa w11 => ∃ (k : Nat) (v : Value) (F9 : Fz) (u10 : Nat → Value), mm = ps.length - k ∧ u10 = slots aa ∧ aa = ⟨#[(bv kd), (.slice x ps.length y), undef, undef, (u10 4), (u10 5), v, undef, (u10 8), (bv kd), (.slice (some ⟨n3, 0, none⟩) 1 1), (.slice x ps.length y), (.int .i64 ((ps.length : Nat) : Int)), (.int .i64 ((k : Nat) : Int)), (u10 14), (u10 15), (u10 16), (u10 17), (u10 18), (u10 19), (u10 20), (u10 21), (u10 22), (u10 23), (u10 24), (u10 25), (u10 26), (u10 27), (u10 28), (u10 29), (u10 30), (u10 31), (u10 32), (u10 33), (u10 34), (u10 35), (u10 36), (u10 37), (u10 38), (u10 39), (u10 40), (u10 41), undef, undef], []⟩ ∧ St w F w11 F9 [] [ownP 1 ByC ByC.mono 5 w.heap.size v (kd :: (ps.take k).flatMap partB)] ∧ Le F F9 ∧ (k ≤ ps.length)) _ ⟨0, (.slice (some ⟨n3, 0, none⟩) 1 1), F, _, rfl, rfl, rfl, S8, Le.refl _, (by omega)⟩ ?_
 rintro m12 a13 w14 ⟨k, v, F9, u10, rfl, -, rfl, S15, le16, hk⟩ K17 hK17
 refine wp_seq_k (fun K18 hK18 => region_wl ?_)
 by_cases hc14 : k < ps.length
 ·refine do_ rfl (.bool true) (ex_lss (m := ((k : Nat) : Int)) (n := ((ps.length : Nat) : Int)) (b := true) rfl rfl (decide_eq_true (by omega))) ?_
  simp only [pS, pN, pA, pC, pZ]
  refine wl_nil (hK18 _ _ ?_)
  refine wp_seq_k (fun K19 hK19 => ?_)
  refine wp_cond_true rfl ?_
  refine wp_skip ?_
  refine hK19 _ _ ?_
  refine wp_seq_k (fun K20 hK20 => ?_)
  refine wp_block ?_
  refine wp_seq_k (fun K21 hK21 => ?_)
  obtain ⟨p, hp1⟩ : ∃ p, ps[k]? = some p := ⟨ps[k], List.getElem?_eq_getElem hc14⟩
  have hat := parts_at hp1
  obtain ⟨b22, o23, ha24, xa25, xc26, c27, r28⟩ := Lss.get (hp.mono le16) hp1
  refine region_wl ?_
  refine do_ rfl (.pointer (some ⟨b22, o23 + k * 1, none⟩)) (ex_at (i := k) (sz := 1) Tryd.underlying76 (sizeof_22 _) rfl ha24 rfl (by omega) rfl) ?_
  simp only [pS, pN, pA, pC, pZ]
  refine do_ rfl (.slice xa25 p.length xc26) (ex_load rfl (load1 (nagg_22 _) (St.fz S15 c27))) ?_
  simp only [pS, pN, pA, pC, pZ]
  refine do_ rfl (.slice xa25 p.length xc26) (ex_assign _) ?_
  simp only [pS, pN, pA, pC, pZ]
  refine wl_nil (hK21 _ _ ?_)
  refine wp_seq_k (fun K29 hK29 => ?_)
  refine wp_seq_k (fun K30 hK30 => ?_)
  obtain ⟨a31, cap32, rfl, h33, h34⟩ := (S15.own (i := 0) rfl).shape
  unfold maxLen at h34
  have hlen : (kd :: (ps.take k).flatMap partB).length = 1 + ((ps.take k).flatMap partB).length := by rw [List.length_cons]; omega
  refine region_wl ?_
  refine do_ rfl (.slice xa25 p.length xc26) (ex_move _) ?_
  simp only [pS, pN, pA, pC, pZ]
  refine do_ rfl (.int .i64 ((p.length : Nat) : Int)) (ex_len Tryd.underlying22 rfl) ?_
  simp only [pS, pN, pA, pC, pZ]
  refine do_ rfl (.bool false) (ex_gtr (m := ((p.length : Nat) : Int)) (n := (4000 : Int)) (b := false) rfl rfl (decide_eq_false (by omega))) ?_
  simp only [pS, pN, pA, pC, pZ]
  refine do_ rfl (.bool false) (ex_move _) ?_
  simp only [pS, pN, pA, pC, pZ]
  refine do_ rfl (.slice a31 (kd :: (ps.take k).flatMap partB).length cap32) (ex_move _) ?_
  simp only [pS, pN, pA, pC, pZ]
  refine do_ rfl (.int .i64 (((kd :: (ps.take k).flatMap partB).length : Nat) : Int)) (ex_len Tryd.underlying22 rfl) ?_
  simp only [pS, pN, pA, pC, pZ]
  refine do_ rfl (.int .i64 ((((kd :: (ps.take k).flatMap partB).length + 2) : Nat) : Int)) (ex_add (m := (((kd :: (ps.take k).flatMap partB).length : Nat) : Int)) (n := (2 : Int)) (r := ((((kd :: (ps.take k).flatMap partB).length + 2) : Nat) : Int)) rfl rfl (by omega) (by omega) (by omega)) ?_
  simp only [pS, pN, pA, pC, pZ]
  refine do_ rfl (.slice xa25 p.length xc26) (ex_move _) ?_
  simp only [pS, pN, pA, pC, pZ]
  refine do_ rfl (.int .i64 ((p.length : Nat) : Int)) (ex_len Tryd.underlying22 rfl) ?_
  simp only [pS, pN, pA, pC, pZ]
  refine do_ rfl (.int .i64 (((((kd :: (ps.take k).flatMap partB).length + 2) + p.length) : Nat) : Int)) (ex_add (m := ((((kd :: (ps.take k).flatMap partB).length + 2) : Nat) : Int)) (n := ((p.length : Nat) : Int)) (r := (((((kd :: (ps.take k).flatMap partB).length + 2) + p.length) : Nat) : Int)) rfl rfl (by omega) (by omega) (by omega)) ?_
  simp only [pS, pN, pA, pC, pZ]
  refine do_ rfl (.bool false) (ex_gtr (m := (((((kd :: (ps.take k).flatMap partB).length + 2) + p.length) : Nat) : Int)) (n := (4000 : Int)) (b := false) rfl rfl (decide_eq_false (by omega))) ?_
  simp only [pS, pN, pA, pC, pZ]
  refine do_ rfl (.bool false) (ex_pick (b := false) rfl) ?_
  simp only [pS, pN, pA, pC, pZ]
  refine wl_nil (hK30 _ _ ?_)
  refine wp_cond_false rfl ?_
  refine wp_skip ?_
  refine hK29 _ _ ?_
  refine region_wl ?_
  refine do_ rfl (.slice a31 (kd :: (ps.take k).flatMap partB).length cap32) (ex_move _) ?_
  simp only [pS, pN, pA, pC, pZ]
  refine do_ rfl (.slice xa25 p.length xc26) (ex_move _) ?_
  simp only [pS, pN, pA, pC, pZ]
  refine do_ rfl (.int .i64 ((p.length : Nat) : Int)) (ex_len Tryd.underlying22 rfl) ?_
  simp only [pS, pN, pA, pC, pZ]
  refine do_ rfl (.int .i64 (((p.length / 256) : Nat) : Int)) (ex_shrN (m := p.length) (n := 8) rfl rfl (by decide)) ?_
  simp only [pS, pN, pA, pC, pZ]
  refine do_ rfl (bv (b8 (p.length / 256))) (ex_convert (v := (.int .i64 (((p.length / 256) : Nat) : Int))) rfl (conv_b8 (p.length / 256) _)) ?_
  simp only [pS, pN, pA, pC, pZ]
  refine do_ rfl (.slice xa25 p.length xc26) (ex_move _) ?_
  simp only [pS, pN, pA, pC, pZ]
  refine do_ rfl (.int .i64 ((p.length : Nat) : Int)) (ex_len Tryd.underlying22 rfl) ?_
  simp only [pS, pN, pA, pC, pZ]
  refine do_ rfl (bv (b8 p.length)) (ex_convert (v := (.int .i64 ((p.length : Nat) : Int))) rfl (conv_b8 p.length _)) ?_
  simp only [pS, pN, pA, pC, pZ]
  refine stNew S15 (v := fun n => .slice (some ⟨n, 0, none⟩) 2 2) rfl (ex_lit (ps := #[(0, (bv (b8 (p.length / 256)))), (1, (bv (b8 p.length)))]) (cells := #[(bv (b8 (p.length / 256))), (bv (b8 p.length))]) (E := 5) (bmap2 rfl rfl) (fun w => by kernel_rfl)) (fun n35 w36 S37 => ?_)
  simp only [pS, pN, pA, pC, pZ]
  have S37 : St w F w36 F9 [⟨n35, [(bv (b8 (p.length / 256))), (bv (b8 p.length))], 5⟩] [ownP 1 ByC ByC.mono 5 w.heap.size (.slice a31 (kd :: (ps.take k).flatMap partB).length cap32) (kd :: (ps.take k).flatMap partB)] := S37
  obtain ⟨S38, le39, hc40⟩ := St.freezeBlk S37 (i := 0) rfl
  have r42 : Bs _ (.slice (some ⟨n35, 0, none⟩) 2 2) ([(b8 (p.length / 256)), (b8 p.length)] : By) := bs_of_block (l := ([(b8 (p.length / 256)), (b8 p.length)] : By)) hc40 rfl (by unfold maxLen; simp)
  generalize addF F9 w36 n35 = F41 at *
  have S38 : St w F w36 F41 [] [ownP 1 ByC ByC.mono 5 w.heap.size (.slice a31 (kd :: (ps.take k).flatMap partB).length cap32) (kd :: (ps.take k).flatMap partB)] := S38
  refine stAppendS (r := 0) (u := (.slice (some ⟨n35, 0, none⟩) 2 2)) S38 rfl i5 (.int .u8 0) 1 Tryd.underlying22 hi5 hz5 hs5 hb5 rfl (by decide) rfl rfl rfl (Sl.toW (Bs.sl r42) (S38).sat) ByC.one (Nat.le_refl _) S38.gr.below.size (by unfold maxLen; simp only [List.length_append, List.length_cons, List.length_nil]; omega) (by simp only [List.length_append, List.length_cons, List.length_nil]; omega) ?_
  intro v43 w44 S45 hn46
  simp only [pS, pN, pA, pC, pZ]
  have S45 : St w F w44 F41 [] [ownP 1 ByC ByC.mono 5 w.heap.size v43 ((kd :: (ps.take k).flatMap partB) ++ ([(b8 (p.length / 256)), (b8 p.length)] : By))] := S45
  refine do_ rfl (.slice xa25 p.length xc26) (ex_move _) ?_
  simp only [pS, pN, pA, pC, pZ]
  refine stAppendS (r := 0) (u := (.slice xa25 p.length xc26)) S45 rfl i5 (.int .u8 0) 1 Tryd.underlying22 hi5 hz5 hs5 hb5 rfl (by decide) rfl rfl rfl (Sl.toW (Bs.sl (r28.mono le39)) (S45).sat) ByC.one (Nat.le_refl _) S45.gr.below.size (by unfold maxLen; simp only [List.length_append, List.length_cons, List.length_nil]; omega) (by simp only [List.length_append, List.length_cons, List.length_nil]; omega) ?_
  intro v47 w48 S49 hn50
  simp only [pS, pN, pA, pC, pZ]
  have S49 : St w F w48 F41 [] [ownP 1 ByC ByC.mono 5 w.heap.size v47 (((kd :: (ps.take k).flatMap partB) ++ ([(b8 (p.length / 256)), (b8 p.length)] : By)) ++ p)] := S49
  refine do_ rfl v47 (ex_assign _) ?_
  simp only [pS, pN, pA, pC, pZ]
  refine wl_nil (hK20 _ _ ?_)
  refine region_wl ?_
  refine do_ rfl (.int .i64 (((k + 1) : Nat) : Int)) (ex_add (m := ((k : Nat) : Int)) (n := (1 : Int)) (r := (((k + 1) : Nat) : Int)) rfl rfl (by omega) (by omega) (by omega)) ?_
  simp only [pS, pN, pA, pC, pZ]
  refine do_ rfl (.int .i64 (((k + 1) : Nat) : Int)) (ex_move _) ?_
  simp only [pS, pN, pA, pC, pZ]
  refine wl_nil ?_
  rw [parts_step hp1 (by omega)] at S49
  exact hK17 _ _ _ (by omega) ⟨(k + 1), v47, F41, _, rfl, rfl, rfl, S49, (le16.trans le39), (by omega)⟩
 ·refine do_ rfl (.bool false) (ex_lss (m := ((k : Nat) : Int)) (n := ((ps.length : Nat) : Int)) (b := false) rfl rfl (decide_eq_false (by omega))) ?_
  simp only [pS, pN, pA, pC, pZ]
  refine wl_nil (hK18 _ _ ?_)
  refine wp_seq_k (fun K51 hK51 => ?_)
  refine wp_cond_false rfl ?_
  refine wp_exit ?_
  refine hK6 _ _ ?_
  refine wp_seq_k (fun K52 hK52 => ?_)
  have hend : ps.take k = ps := List.take_of_length_le (by omega)
  rw [hend] at S15
  have S15 : St w F w14 F9 [] [ownP 1 ByC ByC.mono 5 w.heap.size v (partsB kd ps)] := S15
  obtain ⟨a53, cap54, rfl, h55, h56⟩ := (S15.own (i := 0) rfl).shape
  unfold maxLen at h56
  obtain ⟨F57, S58, le59, hv60⟩ := St.freeze S15 (i := 0) rfl (Nat.le_refl _)
  have S58 : St w F w14 F57 [] [] := S58
  have hv60 : Bys _ (.slice a53 (partsB kd ps).length cap54) (partsB kd ps) := hv60
  have r61 := bs_of_sl hv60
  have hpl : (partsB kd ps).length = 1 + (ps.flatMap partB).length := by unfold partsB; rw [List.length_cons]; omega
  refine region_wl ?_
  refine do_ rfl (.slice a53 (partsB kd ps).length cap54) (ex_move _) ?_
  simp only [pS, pN, pA, pC, pZ]
  refine stGives S58 rfl (ex_fn (vs := #[(.slice a53 (partsB kd ps).length cap54)]) (map1 rfl) rfl (ent_36 _ _)) (sum_spec _ _ _ (partsB kd ps) (S58).sat (hT.at S58.gr.below) r61 (by omega)) ?_
  intro v67 w62 F64 S63 le65 R66
  obtain ⟨xa68, xc69, rfl, _⟩ := R66.shape
  simp only [pS, pN, pA, pC, pZ]
  refine do_ rfl (.slice xa68 (sumL (partsB kd ps)).length xc69) (ex_assign _) ?_
  simp only [pS, pN, pA, pC, pZ]
  refine do_ rfl (.int .i64 0) (ex_assign _) ?_
  simp only [pS, pN, pA, pC, pZ]
  refine wl_nil (hK52 _ _ ?_)
  refine wp_ret ?_
  (try simp only [Exit.then, Exit.inBlock, ↓reduceIte, Nat.reduceEqDiff])
  refine bodyPost_ret (v := (.tuple #[(.slice xa68 (sumL (partsB kd ps)).length xc69), (.int .i64 0)])) ?_ rfl ?_
  ·exact res_tt rfl rfl rfl
  ·exact ⟨_, _, rfl, S63.gr, _, rfl, R66⟩
end Go.Proofs.YtcanckliggcllaaDoor
namespace Go.Proofs.YtcanckliggcllaaDoor
open Go.RowKit
set_option maxRecDepth 100000
set_option linter.unusedVariables false
set_option linter.unusedSimpArgs false
theorem bs_app {F : Fz} {v : Value} {l m : By} (h : Bs F v l) (e : l = m) : Bs F v m := e ▸ h
theorem partsE_step {F : Fz} {u : Value} {b c : By} {e : Int} (h : SumR b e F u) (q : b = c) : SumR c e F u := q ▸ h
set_option maxHeartbeats 8000000 in
theorem leaf_spec (F : Fz) (w : World) (v : Value) (p : Pr) (hs : Sat w F) (hT : Tabs w) (hv : Pr2V F v p) (hk : p.1.length ≤ 1000) (hx : p.2.length ≤ 1000) :
    Calls Tryd.prog 54 #[v] w (Gives w F fun F' u => Bs F' u (leafT p)) := by
 obtain ⟨x0, y0, x1, y1, rfl, h0, h1⟩ := hv
 have S := St.start hs
 go_enter Tryd.func54, Tryd.ntmps54
 refine wp_seq_k (fun K1 hK1 => region_wl ?_)
 refine stNew S (v := fun n => .pointer (some ⟨n, 0, none⟩)) rfl (ex_box (v := (.agg #[(.slice x0 p.1.length y0), (.slice x1 p.2.length y1)])) rfl) (fun n2 w3 S4 => ?_)
 simp only [pS, pN, pA, pC, pZ]
 have S4 : St w F w3 F [⟨n2, [(.slice x0 p.1.length y0), (.slice x1 p.2.length y1)], 38⟩] [] := S4
 refine do_ rfl (.slice none 0 0) (ex_assign _) ?_
 simp only [pS, pN, pA, pC, pZ]
 refine wl_nil (hK1 _ _ ?_)
 refine wp_seq_k (fun K5 hK5 => region_wl ?_)
 refine do_ rfl (.pointer (some ⟨n2, 0, none⟩)) (ex_field (q := ⟨n2, 0, none⟩) rfl (fa_38_0 _ _)) ?_
 simp only [pS, pN, pA, pC, pZ]
 refine do_ rfl (.slice x0 p.1.length y0) (ex_load rfl (load1 (nagg_22 _) (St.cell S4 (i := 0) rfl rfl))) ?_
 simp only [pS, pN, pA, pC, pZ]
 refine do_ rfl (.pointer (some ⟨n2, 1, none⟩)) (ex_field (q := ⟨n2, 1, none⟩) rfl (fa_38_1 _ _)) ?_
 simp only [pS, pN, pA, pC, pZ]
 refine do_ rfl (.slice x1 p.2.length y1) (ex_load rfl (load1 (nagg_22 _) (St.cell S4 (i := 0) rfl rfl))) ?_
 simp only [pS, pN, pA, pC, pZ]
 refine stNew S4 (v := fun n => .slice (some ⟨n, 0, none⟩) 2 2) rfl (ex_lit (ps := #[(0, (.slice x0 p.1.length y0)), (1, (.slice x1 p.2.length y1))]) (cells := #[(.slice x0 p.1.length y0), (.slice x1 p.2.length y1)]) (E := 22) (bmap2 rfl rfl) (fun w => by kernel_rfl)) (fun n6 w7 S8 => ?_)
 simp only [pS, pN, pA, pC, pZ]
 have S8 : St w F w7 F [⟨n6, [(.slice x0 p.1.length y0), (.slice x1 p.2.length y1)], 22⟩, ⟨n2, [(.slice x0 p.1.length y0), (.slice x1 p.2.length y1)], 38⟩] [] := S8
 obtain ⟨S9, le10, hc11⟩ := St.freezeBlk S8 (i := 0) rfl
 have r13 : Lss _ (.slice (some ⟨n6, 0, none⟩) 2 2) ([p.1, p.2] : List By) := sl_of_block (R := LsC) (l := ([p.1, p.2] : List By)) (el := [[(.slice x0 p.1.length y0)], [(.slice x1 p.2.length y1)]]) hc11 rfl ⟨⟨_, rfl, (h0.mono le10)⟩, ⟨_, rfl, (h1.mono le10)⟩, trivial⟩ (by simp) (by unfold maxLen; simp)
 generalize addF F w7 n6 = F12 at *
 have S9 : St w F w7 F12 [⟨n2, [(.slice x0 p.1.length y0), (.slice x1 p.2.length y1)], 38⟩] [] := S9
 refine stGives S9 rfl (ex_fn (vs := #[(.int .u8 1), (.slice (some ⟨n6, 0, none⟩) 2 2)]) (map2 rfl rfl) rfl (ent_20 _ _)) (Parts_spec _ _ _ 1 [p.1, p.2] (S9).sat (hT.at S9.gr.below) r13 (by simp [partB_len]; omega)) ?_
 intro v19 w14 F16 S15 le17 R18
 obtain ⟨x20, rfl, r21⟩ := R18
 obtain ⟨xa22, xc23, rfl, _⟩ := r21.shape
 have r21 : Bs _ (.slice xa22 (leafT p).length xc23) (leafT p) := r21
 simp only [pS, pN, pA, pC, pZ]
 refine do_ rfl (.tuple #[(.slice xa22 (leafT p).length xc23), (.int .i64 0)]) (ex_move _) ?_
 simp only [pS, pN, pA, pC, pZ]
 refine do_ rfl (.slice xa22 (leafT p).length xc23) (ex_extract rfl rfl) ?_
 simp only [pS, pN, pA, pC, pZ]
 refine do_ rfl (.int .i64 0) (ex_extract rfl rfl) ?_
 simp only [pS, pN, pA, pC, pZ]
 refine do_ rfl (.slice xa22 (leafT p).length xc23) (ex_assign _) ?_
 simp only [pS, pN, pA, pC, pZ]
 refine do_ rfl (.int .i64 0) (ex_assign _) ?_
 simp only [pS, pN, pA, pC, pZ]
 refine wl_nil (hK5 _ _ ?_)
 refine wp_seq_k (fun K24 hK24 => region_wl ?_)
 refine do_ rfl (.slice xa22 (leafT p).length xc23) (ex_move _) ?_
 simp only [pS, pN, pA, pC, pZ]
 refine do_ rfl (.slice xa22 (leafT p).length xc23) (ex_assign _) ?_
 simp only [pS, pN, pA, pC, pZ]
 refine wl_nil (hK24 _ _ ?_)
 refine wp_ret ?_
 (try simp only [Exit.then, Exit.inBlock, ↓reduceIte, Nat.reduceEqDiff])
 refine bodyPost_ret (v := (.slice xa22 (leafT p).length xc23)) ?_ rfl ?_
 ·exact res_t rfl rfl
 ·exact ⟨_, _, rfl, S15.gr, r21⟩
set_option maxHeartbeats 8000000 in
theorem fork_spec (F : Fz) (w : World) (v u : Value) (bit : Nat) (a b : By) (hs : Sat w F) (hT : Tabs w) (h0 : Bs F v a) (h1 : Bs F u b) (hk : a.length ≤ 1000) (hx : b.length ≤ 1000) :
    Calls Tryd.prog 56 #[.int .i64 (bit : Nat), v, u] w (Gives w F fun F' u => Bs F' u (forkT bit a b)) := by
 obtain ⟨x0, y0, rfl, _⟩ := h0.shape
 obtain ⟨x1, y1, rfl, _⟩ := h1.shape
 have S := St.start hs
 go_enter Tryd.func56, Tryd.ntmps56
 refine wp_seq_k (fun K1 hK1 => region_wl ?_)
 refine do_ rfl (.slice none 0 0) (ex_assign _) ?_
 simp only [pS, pN, pA, pC, pZ]
 refine wl_nil (hK1 _ _ ?_)
 refine wp_seq_k (fun K2 hK2 => region_wl ?_)
 refine do_ rfl (.int .i64 ((bit : Nat) : Int)) (ex_move _) ?_
 simp only [pS, pN, pA, pC, pZ]
 refine do_ rfl (bv (b8 bit)) (ex_convert (v := (.int .i64 ((bit : Nat) : Int))) rfl (conv_b8 bit _)) ?_
 simp only [pS, pN, pA, pC, pZ]
 refine stNew S (v := fun n => .slice (some ⟨n, 0, none⟩) 1 1) rfl (ex_lit (ps := #[(0, (bv (b8 bit)))]) (cells := #[(bv (b8 bit))]) (E := 5) (bmap1 rfl) (fun w => by kernel_rfl)) (fun n3 w4 S5 => ?_)
 simp only [pS, pN, pA, pC, pZ]
 have S5 : St w F w4 F [⟨n3, [(bv (b8 bit))], 5⟩] [] := S5
 refine do_ rfl (.slice x0 a.length y0) (ex_move _) ?_
 simp only [pS, pN, pA, pC, pZ]
 refine do_ rfl (.slice x1 b.length y1) (ex_move _) ?_
 simp only [pS, pN, pA, pC, pZ]
 refine stNew S5 (v := fun n => .slice (some ⟨n, 0, none⟩) 3 3) rfl (ex_lit (ps := #[(0, (.slice (some ⟨n3, 0, none⟩) 1 1)), (1, (.slice x0 a.length y0)), (2, (.slice x1 b.length y1))]) (cells := #[(.slice (some ⟨n3, 0, none⟩) 1 1), (.slice x0 a.length y0), (.slice x1 b.length y1)]) (E := 22) (bmap3 rfl rfl rfl) (fun w => by kernel_rfl)) (fun n6 w7 S8 => ?_)
 simp only [pS, pN, pA, pC, pZ]
 have S8 : St w F w7 F [⟨n6, [(.slice (some ⟨n3, 0, none⟩) 1 1), (.slice x0 a.length y0), (.slice x1 b.length y1)], 22⟩, ⟨n3, [(bv (b8 bit))], 5⟩] [] := S8
 obtain ⟨S9, le10, hc11⟩ := St.freezeBlk S8 (i := 1) rfl
 have r13 : Bs _ (.slice (some ⟨n3, 0, none⟩) 1 1) ([(b8 bit)] : By) := bs_of_block (l := ([(b8 bit)] : By)) hc11 rfl (by unfold maxLen; simp)
 generalize addF F w7 n3 = F12 at *
 have S9 : St w F w7 F12 [⟨n6, [(.slice (some ⟨n3, 0, none⟩) 1 1), (.slice x0 a.length y0), (.slice x1 b.length y1)], 22⟩] [] := S9
 obtain ⟨S14, le15, hc16⟩ := St.freezeBlk S9 (i := 0) rfl
 have r18 : Lss _ (.slice (some ⟨n6, 0, none⟩) 3 3) ([([(b8 bit)] : By), a, b] : List By) := sl_of_block (R := LsC) (l := ([([(b8 bit)] : By), a, b] : List By)) (el := [[(.slice (some ⟨n3, 0, none⟩) 1 1)], [(.slice x0 a.length y0)], [(.slice x1 b.length y1)]]) hc16 rfl ⟨⟨_, rfl, (r13.mono le15)⟩, ⟨_, rfl, ((h0.mono le10).mono le15)⟩, ⟨_, rfl, ((h1.mono le10).mono le15)⟩, trivial⟩ (by simp) (by unfold maxLen; simp)
 generalize addF F12 w7 n6 = F17 at *
 have S14 : St w F w7 F17 [] [] := S14
 refine stGives S14 rfl (ex_fn (vs := #[(.int .u8 2), (.slice (some ⟨n6, 0, none⟩) 3 3)]) (map2 rfl rfl) rfl (ent_20 _ _)) (Parts_spec _ _ _ 2 [([(b8 bit)] : By), a, b] (S14).sat (hT.at S14.gr.below) r18 (by simp [partB_len]; omega)) ?_
 intro v24 w19 F21 S20 le22 R23
 obtain ⟨x25, rfl, r26⟩ := R23
 obtain ⟨xa27, xc28, rfl, _⟩ := r26.shape
 have r26 : Bs _ (.slice xa27 (forkT bit a b).length xc28) (forkT bit a b) := r26
 simp only [pS, pN, pA, pC, pZ]
 refine do_ rfl (.tuple #[(.slice xa27 (forkT bit a b).length xc28), (.int .i64 0)]) (ex_move _) ?_
 simp only [pS, pN, pA, pC, pZ]
 refine do_ rfl (.slice xa27 (forkT bit a b).length xc28) (ex_extract rfl rfl) ?_
 simp only [pS, pN, pA, pC, pZ]
 refine do_ rfl (.int .i64 0) (ex_extract rfl rfl) ?_
 simp only [pS, pN, pA, pC, pZ]
 refine do_ rfl (.slice xa27 (forkT bit a b).length xc28) (ex_assign _) ?_
 simp only [pS, pN, pA, pC, pZ]
 refine do_ rfl (.int .i64 0) (ex_assign _) ?_
 simp only [pS, pN, pA, pC, pZ]
 refine wl_nil (hK2 _ _ ?_)
 refine wp_seq_k (fun K29 hK29 => region_wl ?_)
 refine do_ rfl (.slice xa27 (forkT bit a b).length xc28) (ex_move _) ?_
 simp only [pS, pN, pA, pC, pZ]
 refine do_ rfl (.slice xa27 (forkT bit a b).length xc28) (ex_assign _) ?_
 simp only [pS, pN, pA, pC, pZ]
 refine wl_nil (hK29 _ _ ?_)
 refine wp_ret ?_
 (try simp only [Exit.then, Exit.inBlock, ↓reduceIte, Nat.reduceEqDiff])
 refine bodyPost_ret (v := (.slice xa27 (forkT bit a b).length xc28)) ?_ rfl ?_
 ·exact res_t rfl rfl
 ·exact ⟨_, _, rfl, S20.gr, r26⟩
theorem low_step {l : List Pr} {bit n : Nat} {p : Pr} (hlo : ∀ (i : Nat) (h : i < l.length), i < n → bitL l[i].1 bit = false) (hp : l[n]? = some p) (hb : bitL p.1 bit = false) : ∀ (i : Nat) (h : i < l.length), i < n + 1 → bitL l[i].1 bit = false := by
  intro i h hi
  by_cases e : i = n
  · subst e; obtain ⟨_, e⟩ := List.getElem?_eq_some_iff.1 hp; rw [e]; exact hb
  · exact hlo i h (by omega)
theorem part_at {F : Fz} {w : World} {v u : Value} {a b : By} {n : Nat} (hs : Sat w F) (hv : Bs F v a) (hu : Bs F u b) (h : partL a b = n) (ha : 1 ≤ a.length ∧ a.length ≤ 16) (hb : 1 ≤ b.length ∧ b.length ≤ 16) :
    Calls Tryd.prog 23 #[v, u] w fun e w' => e = .returned (.tuple #[.int .i64 (n : Nat), .int .i64 0]) ∧ w' = w := by
  have := part_spec F w v u a b hs hv hu ha.1 ha.2 hb.1 hb.2
  rwa [h] at this
set_option maxHeartbeats 8000000 in
theorem parted_spec (F : Fz) (w : World) (v : Value) (l : List Pr) (hs : Sat w F) (hv : Prs F v l) (hk : KeysOk l) (h2 : 2 ≤ l.length) (h60 : l.length ≤ 60) :
    Calls Tryd.prog 55 #[v] w (Tells w (.tuple #[.int .i64 (bitT l : Nat), .int .i64 (leftN (bitT l) l : Nat)])) := by
 obtain ⟨a, c, rfl, hc1, hc2⟩ := Sl.shape hv
 unfold maxLen at hc2
 have S := St.start hs
 go_enter Tryd.func55, Tryd.ntmps55
 refine wp_seq_k (fun K1 hK1 => region_wl ?_)
 refine do_ rfl (.int .i64 0) (ex_assign _) ?_
 simp only [pS, pN, pA, pC, pZ]
 refine do_ rfl (.int .i64 0) (ex_assign _) ?_
 simp only [pS, pN, pA, pC, pZ]
 refine wl_nil (hK1 _ _ ?_)
 refine wp_seq_k (fun K2 hK2 => ?_)
 obtain ⟨p0, hp0⟩ : ∃ p, l[0]? = some p := ⟨l[0], List.getElem?_eq_getElem (by omega)⟩
 obtain ⟨p1, hp1⟩ : ∃ p, l[l.length - 1]? = some p := ⟨l[l.length - 1], List.getElem?_eq_getElem (by omega)⟩
 have hq0 := hk.key p0 (List.mem_of_getElem? hp0)
 have hq1 := hk.key p1 (List.mem_of_getElem? hp1)
 obtain ⟨hb1, hpb, _, _⟩ := bitT_spec hk h2
 rw [(List.getElem?_eq_some_iff.1 hp0).2, (List.getElem?_eq_some_iff.1 hp1).2] at hpb
 obtain ⟨b3, o4, ha5, xa7, xc8, xa11, xc12, c6, c10, r9, r13⟩ := Prs.get hv hp0
 obtain ⟨b14, o15, ha16, xa18, xc19, xa22, xc23, c17, c21, r20, r24⟩ := Prs.get hv hp1
 have hq_ := ha5.symm.trans ha16; injection hq_ with hq_; injection hq_ with hq1_ hq2_; subst hq1_; subst hq2_
 refine region_gw F 16 [(11, .is (.tuple #[(.int .i64 (((bitT l) : Nat) : Int)), (.int .i64 0)]))] (by kernel_rfl) (by kernel_rfl) ?_
 simp only [List.take_succ_cons, List.take_zero]
 refine gw_pure rfl rfl (.slice a l.length c) (fun w25 hCw25 => pureAt_of (ex_move _)) ?_
 simp only [pS, pN, pA, pC, pZ]
 refine gw_pure rfl rfl (.pointer (some ⟨b3, o4 + 0 * 2, none⟩)) (fun w25 hCw25 => pureAt_of (ex_at (i := 0) (sz := 2) Tryd.underlying40 (sizeof_38 _) rfl ha5 rfl (by omega) rfl)) ?_
 simp only [pS, pN, pA, pC, pZ]
 refine gw_pure rfl rfl (.pointer (some ⟨b3, o4 + 0 * 2, none⟩)) (fun w25 hCw25 => pureAt_of (ex_field (q := ⟨b3, o4 + 0 * 2, none⟩) rfl (fa_38_0 _ _))) ?_
 simp only [pS, pN, pA, pC, pZ]
 refine gw_pure rfl rfl (.slice xa7 p0.1.length xc8) (fun w25 hCw25 => pureAt_of (ex_load rfl (load1 (nagg_22 _) (St.fz (St.tells S hCw25) c6)))) ?_
 simp only [pS, pN, pA, pC, pZ]
 refine gw_pure rfl rfl (.slice a l.length c) (fun w25 hCw25 => pureAt_of (ex_move _)) ?_
 simp only [pS, pN, pA, pC, pZ]
 refine gw_pure rfl rfl (.slice a l.length c) (fun w25 hCw25 => pureAt_of (ex_move _)) ?_
 simp only [pS, pN, pA, pC, pZ]
 refine gw_pure rfl rfl (.int .i64 ((l.length : Nat) : Int)) (fun w25 hCw25 => pureAt_of (ex_len Tryd.underlying40 rfl)) ?_
 simp only [pS, pN, pA, pC, pZ]
 refine gw_pure rfl rfl (.int .i64 (((l.length - 1) : Nat) : Int)) (fun w25 hCw25 => pureAt_of (ex_sub (m := ((l.length : Nat) : Int)) (n := (1 : Int)) (r := (((l.length - 1) : Nat) : Int)) rfl rfl (by omega) (by omega) (by omega))) ?_
 simp only [pS, pN, pA, pC, pZ]
 refine gw_pure rfl rfl (.pointer (some ⟨b3, o4 + (l.length - 1) * 2, none⟩)) (fun w25 hCw25 => pureAt_of (ex_at (i := (l.length - 1)) (sz := 2) Tryd.underlying40 (sizeof_38 _) rfl ha5 rfl (by omega) rfl)) ?_
 simp only [pS, pN, pA, pC, pZ]
 refine gw_pure rfl rfl (.pointer (some ⟨b3, o4 + (l.length - 1) * 2, none⟩)) (fun w25 hCw25 => pureAt_of (ex_field (q := ⟨b3, o4 + (l.length - 1) * 2, none⟩) rfl (fa_38_0 _ _))) ?_
 simp only [pS, pN, pA, pC, pZ]
 refine gw_pure rfl rfl (.slice xa18 p1.1.length xc19) (fun w25 hCw25 => pureAt_of (ex_load rfl (load1 (nagg_22 _) (St.fz (St.tells S hCw25) c17)))) ?_
 simp only [pS, pN, pA, pC, pZ]
 refine gw_const rfl rfl (v := (.tuple #[(.int .i64 (((bitT l) : Nat) : Int)), (.int .i64 0)])) (fun w25 hCw25 _ => does_call (ex_fn (vs := #[(.slice xa7 p0.1.length xc8), (.slice xa18 p1.1.length xc19)]) (map2 rfl rfl) rfl (ent_23 _ _)) (call_tells (tells_same (part_at ((St.tells S hCw25)).sat r9 r20 hpb hq0 hq1)))) ?_
 simp only [pS, pN, pA, pC, pZ]
 refine gw_pure rfl rfl (.tuple #[(.int .i64 (((bitT l) : Nat) : Int)), (.int .i64 0)]) (fun w25 hCw25 => pureAt_of (ex_move _)) ?_
 simp only [pS, pN, pA, pC, pZ]
 refine gw_pure rfl rfl (.int .i64 (((bitT l) : Nat) : Int)) (fun w25 hCw25 => pureAt_of (ex_extract rfl rfl)) ?_
 simp only [pS, pN, pA, pC, pZ]
 refine gw_pure rfl rfl (.int .i64 0) (fun w25 hCw25 => pureAt_of (ex_extract rfl rfl)) ?_
 simp only [pS, pN, pA, pC, pZ]
 refine gw_pure rfl rfl (.int .i64 (((bitT l) : Nat) : Int)) (fun w25 hCw25 => pureAt_of (ex_assign _)) ?_
 simp only [pS, pN, pA, pC, pZ]
 refine gw_nil ?_
 intro w26 hC28 hF29
 clear hF29
 have S27 := St.tells S hC28
 simp only [List.drop_succ_cons, List.drop_zero]
 refine do_ rfl (.int .i64 0) (ex_assign _) ?_
 simp only [pS, pN, pA, pC, pZ]
 refine wl_nil (hK2 _ _ ?_)
 refine wp_seq_k (fun K30 hK30 => region_wl ?_)
 refine do_ rfl (.int .i64 0) (ex_assign _) ?_
 simp only [pS, pN, pA, pC, pZ]
 refine wl_nil (hK30 _ _ ?_)
 refine wp_seq_k (fun K31 hK31 => ?_)
 refine wp_block ?_
 refine wp_loop_g (fun mm aa w33 => ∃ (n : Nat) (u32 : Nat → Value), mm = l.length - n ∧ u32 = slots aa ∧ aa = ⟨#[(.slice a l.length c), undef, (.int .i64 0), (.int .i64 0), (.int .i64 (((bitT l) : Nat) : Int)), (.int .i64 0), (.int .i64 ((n : Nat) : Int)), (u32 7), (u32 8), (.tuple #[(.int .i64 (((bitT l) : Nat) : Int)), (.int .i64 0)]), (.slice a l.length c), (.pointer (some ⟨b3, o4 + 0 * 2, none⟩)), (.pointer (some ⟨b3, o4 + 0 * 2, none⟩)), (.slice xa7 p0.1.length xc8), (.slice a l.length c), (.slice a l.length c), (.int .i64 ((l.length : Nat) : Int)), (.int .i64 (((l.length - 1) : Nat) : Int)), (.pointer (some ⟨b3, o4 + (l.length - 1) * 2, none⟩)), (.pointer (some ⟨b3, o4 + (l.length - 1) * 2, none⟩)), (.slice xa18 p1.1.length xc19), (.tuple #[(.int .i64 (((bitT l) : Nat) : Int)), (.int .i64 0)]), (.int .i64 (((bitT l) : Nat) : Int)), (.int .i64 0), (u32 24), (u32 25), (u32 26), (u32 27), (u32 28), (u32 29), (u32 30), (u32 31), (u32 32), (u32 33), (u32 34), (u32 35), (u32 36), (u32 37), (u32 38), (u32 39), (u32 40), undef, undef], []⟩ ∧ St w F w33 F [] [] ∧ (n ≤ l.length) ∧ (∀ (i : Nat) (h : i < l.length), i < n → bitL l[i].1 (bitT l) = false)) _ ⟨0, _, rfl, rfl, rfl, S27, (by omega), (fun i _ h => by omega)⟩ ?_
 rintro m34 a35 w36 ⟨n, u32, rfl, -, rfl, S37, hn, hlo⟩ K39 hK39
 refine wp_seq_k (fun K40 hK40 => ?_)
 refine wp_seq_k (fun K41 hK41 => region_wl ?_)
 refine do_ rfl (.int .i64 ((n : Nat) : Int)) (ex_move _) ?_
 simp only [pS, pN, pA, pC, pZ]
 refine do_ rfl (.slice a l.length c) (ex_move _) ?_
 simp only [pS, pN, pA, pC, pZ]
 refine do_ rfl (.int .i64 ((l.length : Nat) : Int)) (ex_len Tryd.underlying40 rfl) ?_
 simp only [pS, pN, pA, pC, pZ]
 by_cases hc27 : n < l.length
 ·refine do_ rfl (.bool true) (ex_lss (m := ((n : Nat) : Int)) (n := ((l.length : Nat) : Int)) (b := true) rfl rfl (decide_eq_true (by omega))) ?_
  simp only [pS, pN, pA, pC, pZ]
  refine wl_nil (hK41 _ _ ?_)
  refine wp_cond_true rfl ?_
  refine wp_skip ?_
  refine hK40 _ _ ?_
  refine wp_block ?_
  refine wp_seq_k (fun K42 hK42 => ?_)
  refine wp_seq_k (fun K43 hK43 => ?_)
  obtain ⟨p, hp⟩ : ∃ p, l[n]? = some p := ⟨l[n], List.getElem?_eq_getElem hc27⟩
  have hpp := hk.key p (List.mem_of_getElem? hp)
  obtain ⟨b44, o45, ha46, xa48, xc49, xa52, xc53, c47, c51, r50, r54⟩ := Prs.get hv hp
  refine region_wl ?_
  refine do_ rfl (.slice a l.length c) (ex_move _) ?_
  simp only [pS, pN, pA, pC, pZ]
  refine do_ rfl (.int .i64 ((n : Nat) : Int)) (ex_move _) ?_
  simp only [pS, pN, pA, pC, pZ]
  refine do_ rfl (.pointer (some ⟨b44, o45 + n * 2, none⟩)) (ex_at (i := n) (sz := 2) Tryd.underlying40 (sizeof_38 _) rfl ha46 rfl (by omega) rfl) ?_
  simp only [pS, pN, pA, pC, pZ]
  refine do_ rfl (.pointer (some ⟨b44, o45 + n * 2, none⟩)) (ex_field (q := ⟨b44, o45 + n * 2, none⟩) rfl (fa_38_0 _ _)) ?_
  simp only [pS, pN, pA, pC, pZ]
  refine do_ rfl (.slice xa48 p.1.length xc49) (ex_load rfl (load1 (nagg_22 _) (St.fz S37 c47))) ?_
  simp only [pS, pN, pA, pC, pZ]
  refine do_ rfl (.int .i64 (((bitT l) : Nat) : Int)) (ex_move _) ?_
  simp only [pS, pN, pA, pC, pZ]
  refine stTells (v := (.tuple #[(.bool (bitL p.1 (bitT l))), (.int .i64 0)])) S37 rfl (ex_fn (vs := #[(.slice xa48 p.1.length xc49), (.int .i64 (((bitT l) : Nat) : Int))]) (map2 rfl rfl) rfl (ent_25 _ _)) (tells_same (bitE_spec _ _ _ p.1 _ (S37).sat r50 hpp.1 hpp.2 (by omega) (by omega))) (fun w55 S56 => ?_)
  simp only [pS, pN, pA, pC, pZ]
  refine do_ rfl (.tuple #[(.bool (bitL p.1 (bitT l))), (.int .i64 0)]) (ex_move _) ?_
  simp only [pS, pN, pA, pC, pZ]
  refine do_ rfl (.bool (bitL p.1 (bitT l))) (ex_extract rfl rfl) ?_
  simp only [pS, pN, pA, pC, pZ]
  refine do_ rfl (.int .i64 0) (ex_extract rfl rfl) ?_
  simp only [pS, pN, pA, pC, pZ]
  refine do_ rfl (.bool (bitL p.1 (bitT l))) (ex_assign _) ?_
  simp only [pS, pN, pA, pC, pZ]
  refine do_ rfl (.int .i64 0) (ex_assign _) ?_
  simp only [pS, pN, pA, pC, pZ]
  refine wl_nil (hK43 _ _ ?_)
  refine wp_seq_k (fun K57 hK57 => region_wl ?_)
  refine do_ rfl (.bool (bitL p.1 (bitT l))) (ex_move _) ?_
  simp only [pS, pN, pA, pC, pZ]
  refine wl_nil (hK57 _ _ ?_)
  refine wp_cond_split rfl (fun hc58 => ?_) (fun hc58 => ?_)
  ·refine wp_exit ?_
   refine hK31 _ _ ?_
   refine wp_seq_k (fun K59 hK59 => region_wl ?_)
   refine do_ rfl (.int .i64 (((bitT l) : Nat) : Int)) (ex_move _) ?_
   simp only [pS, pN, pA, pC, pZ]
   refine do_ rfl (.int .i64 ((n : Nat) : Int)) (ex_move _) ?_
   simp only [pS, pN, pA, pC, pZ]
   refine do_ rfl (.int .i64 (((bitT l) : Nat) : Int)) (ex_assign _) ?_
   simp only [pS, pN, pA, pC, pZ]
   refine do_ rfl (.int .i64 ((n : Nat) : Int)) (ex_assign _) ?_
   simp only [pS, pN, pA, pC, pZ]
   refine wl_nil (hK59 _ _ ?_)
   refine wp_ret ?_
   (try simp only [Exit.then, Exit.inBlock, ↓reduceIte, Nat.reduceEqDiff])
   refine bodyPost_ret (v := (.tuple #[(.int .i64 (((bitT l) : Nat) : Int)), (.int .i64 ((n : Nat) : Int))])) ?_ rfl ?_
   ·exact res_tt rfl rfl rfl
   ·obtain rfl : leftN (bitT l) l = n := leftN_unique hn hlo (fun h => by obtain ⟨_, e⟩ := List.getElem?_eq_some_iff.1 hp; rw [e]; exact hc58)
    exact ⟨rfl, S56.gr.below⟩
  ·refine wp_skip ?_
   refine hK42 _ _ ?_
   refine region_wl ?_
   refine do_ rfl (.int .i64 ((n : Nat) : Int)) (ex_move _) ?_
   simp only [pS, pN, pA, pC, pZ]
   refine do_ rfl (.int .i64 (((n + 1) : Nat) : Int)) (ex_add (m := ((n : Nat) : Int)) (n := (1 : Int)) (r := (((n + 1) : Nat) : Int)) rfl rfl (by omega) (by omega) (by omega)) ?_
   simp only [pS, pN, pA, pC, pZ]
   refine do_ rfl (.int .i64 (((n + 1) : Nat) : Int)) (ex_assign _) ?_
   simp only [pS, pN, pA, pC, pZ]
   refine wl_nil ?_
   exact hK39 _ _ _ (by omega) ⟨(n + 1), _, rfl, rfl, rfl, S56, (by omega), (low_step hlo hp hc58)⟩
 ·refine do_ rfl (.bool false) (ex_lss (m := ((n : Nat) : Int)) (n := ((l.length : Nat) : Int)) (b := false) rfl rfl (decide_eq_false (by omega))) ?_
  simp only [pS, pN, pA, pC, pZ]
  refine wl_nil (hK41 _ _ ?_)
  refine wp_cond_false rfl ?_
  refine wp_exit ?_
  refine hK31 _ _ ?_
  refine wp_seq_k (fun K60 hK60 => region_wl ?_)
  refine do_ rfl (.int .i64 (((bitT l) : Nat) : Int)) (ex_move _) ?_
  simp only [pS, pN, pA, pC, pZ]
  refine do_ rfl (.int .i64 ((n : Nat) : Int)) (ex_move _) ?_
  simp only [pS, pN, pA, pC, pZ]
  refine do_ rfl (.int .i64 (((bitT l) : Nat) : Int)) (ex_assign _) ?_
  simp only [pS, pN, pA, pC, pZ]
  refine do_ rfl (.int .i64 ((n : Nat) : Int)) (ex_assign _) ?_
  simp only [pS, pN, pA, pC, pZ]
  refine wl_nil (hK60 _ _ ?_)
  refine wp_ret ?_
  (try simp only [Exit.then, Exit.inBlock, ↓reduceIte, Nat.reduceEqDiff])
  refine bodyPost_ret (v := (.tuple #[(.int .i64 (((bitT l) : Nat) : Int)), (.int .i64 ((n : Nat) : Int))])) ?_ rfl ?_
  ·exact res_tt rfl rfl rfl
  ·obtain rfl : leftN (bitT l) l = n := leftN_unique hn hlo (fun h => by omega)
   exact ⟨rfl, S37.gr.below⟩
end Go.Proofs.YtcanckliggcllaaDoor
namespace Go.Proofs.YtcanckliggcllaaDoor
open Go.RowKit
set_option maxRecDepth 100000
set_option linter.unusedVariables false
set_option linter.unusedSimpArgs false
theorem take_keys {l : List Pr} (h : KeysOk l) (n : Nat) : KeysOk (l.take n) := h.sub (List.take_sublist _ _)
theorem drop_keys {l : List Pr} (h : KeysOk l) (n : Nat) : KeysOk (l.drop n) := h.sub (List.drop_sublist _ _)
set_option maxHeartbeats 8000000 in
theorem root_step (m : Nat) (ih : ∀ (F : Fz) (w : World) (v : Value) (l : List Pr), Sat w F → Tabs w → Prs F v l → KeysOk l → 1 ≤ l.length → l.length ≤ 60 → l.length ≤ m → (∀ p ∈ l, p.2.length ≤ 32) →
      Calls Tryd.prog 37 #[v] w (Gives w F fun F' u => Bs F' u (rootT l)))
    (F : Fz) (w : World) (v : Value) (l : List Pr) (hs : Sat w F) (hT : Tabs w) (hv : Prs F v l) (hk : KeysOk l) (h1 : 1 ≤ l.length) (h60 : l.length ≤ 60) (hm : l.length ≤ m + 1) (hx : ∀ p ∈ l, p.2.length ≤ 32) :
    Calls Tryd.prog 37 #[v] w (Gives w F fun F' u => Bs F' u (rootT l)) := by
 obtain ⟨a, c, rfl, hc1, hc2⟩ := Sl.shape hv
 unfold maxLen at hc2
 have S := St.start hs
 go_enter Tryd.func37, Tryd.ntmps37
 refine wp_seq_k (fun K1 hK1 => region_wl ?_)
 refine do_ rfl (.slice none 0 0) (ex_assign _) ?_
 simp only [pS, pN, pA, pC, pZ]
 refine wl_nil (hK1 _ _ ?_)
 refine wp_seq_k (fun K2 hK2 => ?_)
 refine wp_seq_k (fun K3 hK3 => region_wl ?_)
 refine do_ rfl (.slice a l.length c) (ex_move _) ?_
 simp only [pS, pN, pA, pC, pZ]
 refine do_ rfl (.int .i64 ((l.length : Nat) : Int)) (ex_len Tryd.underlying40 rfl) ?_
 simp only [pS, pN, pA, pC, pZ]
 by_cases hc7 : l.length = 1
 ·refine do_ rfl (.bool true) (ex_eql (m := ((l.length : Nat) : Int)) (n := (1 : Int)) (b := true) rfl rfl (beq_iff_eq.2 (by omega))) ?_
  simp only [pS, pN, pA, pC, pZ]
  refine wl_nil (hK3 _ _ ?_)
  refine wp_cond_true rfl ?_
  refine wp_seq_k (fun K4 hK4 => ?_)
  obtain ⟨p, hp⟩ : ∃ p, l[0]? = some p := ⟨l[0], List.getElem?_eq_getElem (by omega)⟩
  have hp1 := (hk.key p (List.mem_of_getElem? hp)).2
  have hp2 := hx p (List.mem_of_getElem? hp)
  have hone : l = [p] := by obtain ⟨q, rfl⟩ := List.length_eq_one_iff.1 (show l.length = 1 by omega); simp at hp; rw [hp]
  obtain ⟨b5, o6, ha7, xa9, xc10, xa13, xc14, c8, c12, r11, r15⟩ := Prs.get hv hp
  refine region_wl ?_
  refine do_ rfl (.slice a l.length c) (ex_move _) ?_
  simp only [pS, pN, pA, pC, pZ]
  refine do_ rfl (.pointer (some ⟨b5, o6 + 0 * 2, none⟩)) (ex_at (i := 0) (sz := 2) Tryd.underlying40 (sizeof_38 _) rfl ha7 rfl (by omega) rfl) ?_
  simp only [pS, pN, pA, pC, pZ]
  refine do_ rfl (.agg #[(.slice xa9 p.1.length xc10), (.slice xa13 p.2.length xc14)]) (ex_load rfl (loadN (cs := [(.slice xa9 p.1.length xc10), (.slice xa13 p.2.length xc14)]) Tryd.underlying38 rfl (size_38) (range2 (St.fz S c8) (St.fz S c12)))) ?_
  simp only [pS, pN, pA, pC, pZ]
  refine stGives S rfl (ex_fn (vs := #[(.agg #[(.slice xa9 p.1.length xc10), (.slice xa13 p.2.length xc14)])]) (map1 rfl) rfl (ent_54 _ _)) (leaf_spec _ _ _ p (S).sat (hT.at S.gr.below) ⟨_, _, _, _, rfl, r11, r15⟩ (by omega) (by omega)) ?_
  intro v21 w16 F18 S17 le19 R20
  obtain ⟨xa22, xc23, rfl, _⟩ := R20.shape
  simp only [pS, pN, pA, pC, pZ]
  refine do_ rfl (.slice xa22 (leafT p).length xc23) (ex_assign _) ?_
  simp only [pS, pN, pA, pC, pZ]
  refine wl_nil (hK4 _ _ ?_)
  refine wp_ret ?_
  (try simp only [Exit.then, Exit.inBlock, ↓reduceIte, Nat.reduceEqDiff])
  refine bodyPost_ret (v := (.slice xa22 (leafT p).length xc23)) ?_ rfl ?_
  ·exact res_t rfl rfl
  ·exact ⟨_, _, rfl, S17.gr, bs_app R20 (by rw [hone]; exact (rootT_one p).symm)⟩
 ·refine do_ rfl (.bool false) (ex_eql (m := ((l.length : Nat) : Int)) (n := (1 : Int)) (b := false) rfl rfl (beq_eq_false_iff_ne.2 (by omega))) ?_
  simp only [pS, pN, pA, pC, pZ]
  refine wl_nil (hK3 _ _ ?_)
  refine wp_cond_false rfl ?_
  refine wp_skip ?_
  refine hK2 _ _ ?_
  refine wp_seq_k (fun K24 hK24 => ?_)
  have hl2 : 2 ≤ l.length := by omega
  obtain ⟨hn1, hn2⟩ := leftN_spec hk hl2
  have hb1 := (bitT_spec hk hl2).1
  refine region_wl ?_
  refine do_ rfl (.slice a l.length c) (ex_move _) ?_
  simp only [pS, pN, pA, pC, pZ]
  refine stTells (v := (.tuple #[(.int .i64 (((bitT l) : Nat) : Int)), (.int .i64 (((leftN (bitT l) l) : Nat) : Int))])) S rfl (ex_fn (vs := #[(.slice a l.length c)]) (map1 rfl) rfl (ent_55 _ _)) (parted_spec _ _ _ l (S).sat hv hk hl2 h60) (fun w25 S26 => ?_)
  simp only [pS, pN, pA, pC, pZ]
  refine do_ rfl (.tuple #[(.int .i64 (((bitT l) : Nat) : Int)), (.int .i64 (((leftN (bitT l) l) : Nat) : Int))]) (ex_move _) ?_
  simp only [pS, pN, pA, pC, pZ]
  refine do_ rfl (.int .i64 (((bitT l) : Nat) : Int)) (ex_extract rfl rfl) ?_
  simp only [pS, pN, pA, pC, pZ]
  refine do_ rfl (.int .i64 (((leftN (bitT l) l) : Nat) : Int)) (ex_extract rfl rfl) ?_
  simp only [pS, pN, pA, pC, pZ]
  refine do_ rfl (.int .i64 (((bitT l) : Nat) : Int)) (ex_assign _) ?_
  simp only [pS, pN, pA, pC, pZ]
  refine do_ rfl (.int .i64 (((leftN (bitT l) l) : Nat) : Int)) (ex_assign _) ?_
  simp only [pS, pN, pA, pC, pZ]
  refine wl_nil (hK24 _ _ ?_)
  refine wp_seq_k (fun K27 hK27 => ?_)
  have hfl : Prs _ (.slice a (leftN (bitT l) l) c) (l.take (leftN (bitT l) l)) := Sl.takeN hv (by omega)
  have hfr : Prs _ (.slice (if c = (leftN (bitT l) l) then a else a.map (·.add ((leftN (bitT l) l) * 2))) (l.length - (leftN (bitT l) l)) (c - (leftN (bitT l) l))) (l.drop (leftN (bitT l) l)) := Sl.dropD (by decide) hv (by omega)
  refine region_hl S26 (by kernel_rfl) (fun w29 S28 => ?_)
  refine hl_take 0 rfl (by kernel_rfl) (v := (.int .i64 (((bitT l) : Nat) : Int))) (fun _ _ _ h => h) S28.sat rfl (fun w30 hs31 => ex_move _) ?_
  simp only [pS, pN, pA, pC, pZ]
  refine hl_take 1 rfl (by kernel_rfl) (v := (.slice a l.length c)) (fun _ _ _ h => h) S28.sat rfl (fun w32 hs33 => ex_move _) ?_
  simp only [pS, pN, pA, pC, pZ]
  refine hl_take 2 rfl (by kernel_rfl) (v := (.int .i64 (((leftN (bitT l) l) : Nat) : Int))) (fun _ _ _ h => h) S28.sat rfl (fun w34 hs35 => ex_move _) ?_
  simp only [pS, pN, pA, pC, pZ]
  refine hl_take 3 rfl (by kernel_rfl) (v := (.slice a (leftN (bitT l) l) c)) (fun _ _ _ h => h) S28.sat rfl (fun w36 hs37 => ex_slice (l := 0) (h := (leftN (bitT l) l)) (sz := 2) Tryd.underlying40 rfl (sizeof_38 _) (.inl ⟨rfl, rfl⟩) (.inr ⟨_, rfl, rfl⟩) (by omega) (by omega) (slice_zero)) ?_
  simp only [pS, pN, pA, pC, pZ]
  refine hl_take 5 rfl (by kernel_rfl) (v := (.slice a l.length c)) (fun _ _ _ h => h) S28.sat rfl (fun w38 hs39 => ex_move _) ?_
  simp only [pS, pN, pA, pC, pZ]
  refine hl_take 6 rfl (by kernel_rfl) (v := (.int .i64 (((leftN (bitT l) l) : Nat) : Int))) (fun _ _ _ h => h) S28.sat rfl (fun w40 hs41 => ex_move _) ?_
  simp only [pS, pN, pA, pC, pZ]
  refine hl_take 7 rfl (by kernel_rfl) (v := (.slice (if c = (leftN (bitT l) l) then a else a.map (·.add ((leftN (bitT l) l) * 2))) (l.length - (leftN (bitT l) l)) (c - (leftN (bitT l) l)))) (fun _ _ _ h => h) S28.sat rfl (fun w42 hs43 => ex_slice (l := (leftN (bitT l) l)) (h := l.length) (sz := 2) Tryd.underlying40 rfl (sizeof_38 _) (.inr ⟨_, rfl, rfl⟩) (.inl ⟨rfl, rfl⟩) (by omega) (by omega) (rfl)) ?_
  simp only [pS, pN, pA, pC, pZ]
  refine hl_next 4 (by kernel_rfl) rfl ?_
  refine stGives S28 rfl (ex_fn (vs := #[(.slice a (leftN (bitT l) l) c)]) (map1 rfl) rfl (ent_37 _ _)) (ih _ _ _ (l.take (leftN (bitT l) l)) (S28).sat (hT.at S28.gr.below) hfl (take_keys hk _) (by rw [List.length_take]; omega) (by rw [List.length_take]; omega) (by rw [List.length_take]; omega) (fun q hq => hx q (List.mem_of_mem_take hq))) ?_
  intro v49 w44 F46 S45 le47 R48
  obtain ⟨xa50, xc51, rfl, _⟩ := R48.shape
  simp only [pS, pN, pA, pC, pZ]
  refine wl_nil (hl_back (Sat.le S45.sat le47) ?_)
  refine hl_next 8 (by kernel_rfl) rfl ?_
  refine stGives S45 rfl (ex_fn (vs := #[(.slice (if c = (leftN (bitT l) l) then a else a.map (·.add ((leftN (bitT l) l) * 2))) (l.length - (leftN (bitT l) l)) (c - (leftN (bitT l) l)))]) (map1 rfl) rfl (ent_37 _ _)) (ih _ _ _ (l.drop (leftN (bitT l) l)) (S45).sat (hT.at S45.gr.below) (hfr.mono le47) (drop_keys hk _) (by rw [List.length_drop]; omega) (by rw [List.length_drop]; omega) (by rw [List.length_drop]; omega) (fun q hq => hx q (List.mem_of_mem_drop hq))) ?_
  intro v57 w52 F54 S53 le55 R56
  obtain ⟨xa58, xc59, rfl, _⟩ := R56.shape
  simp only [pS, pN, pA, pC, pZ]
  refine wl_nil (hl_back (Sat.le S53.sat (le47.trans le55)) ?_)
  refine hl_next 9 (by kernel_rfl) rfl ?_
  refine stGives S53 rfl (ex_fn (vs := #[(.int .i64 (((bitT l) : Nat) : Int)), (.slice xa50 (rootT (l.take (leftN (bitT l) l))).length xc51), (.slice xa58 (rootT (l.drop (leftN (bitT l) l))).length xc59)]) (map3 rfl rfl rfl) rfl (ent_56 _ _)) (fork_spec _ _ _ _ (bitT l) (rootT (l.take (leftN (bitT l) l))) (rootT (l.drop (leftN (bitT l) l))) (S53).sat (hT.at S53.gr.below) (R48.mono le55) R56 (by rw [rootT_len]; omega) (by rw [rootT_len]; omega)) ?_
  intro v65 w60 F62 S61 le63 R64
  obtain ⟨xa66, xc67, rfl, _⟩ := R64.shape
  simp only [pS, pN, pA, pC, pZ]
  refine wl_nil (hl_back (Sat.le S61.sat ((le47.trans le55).trans le63)) ?_)
  refine hl_take 10 rfl (by kernel_rfl) (v := (.slice xa66 (forkT (bitT l) (rootT (l.take (leftN (bitT l) l))) (rootT (l.drop (leftN (bitT l) l)))).length xc67)) (fun _ _ _ h => h) (Sat.le S61.sat ((le47.trans le55).trans le63)) rfl (fun w68 hs69 => ex_assign _) ?_
  simp only [pS, pN, pA, pC, pZ]
  refine hl_done (by kernel_rfl) ?_
  refine hK27 _ _ ?_
  refine wp_ret ?_
  (try simp only [Exit.then, Exit.inBlock, ↓reduceIte, Nat.reduceEqDiff])
  refine bodyPost_ret (v := (.slice xa66 (forkT (bitT l) (rootT (l.take (leftN (bitT l) l))) (rootT (l.drop (leftN (bitT l) l)))).length xc67)) ?_ rfl ?_
  ·exact res_t rfl rfl
  ·exact ⟨_, _, rfl, S61.gr, bs_app R64 (rootT_fork hk hl2).symm⟩
theorem root_spec (m : Nat) : ∀ (F : Fz) (w : World) (v : Value) (l : List Pr), Sat w F → Tabs w → Prs F v l → KeysOk l → 1 ≤ l.length → l.length ≤ 60 → l.length ≤ m → (∀ p ∈ l, p.2.length ≤ 32) →
      Calls Tryd.prog 37 #[v] w (Gives w F fun F' u => Bs F' u (rootT l)) := by
  induction m with
  | zero => intro F w v l _ _ _ _ h1 _ hm; omega
  | succ m ih => intro F w v l hs hT hv hk h1 h60 hm hx; exact root_step m ih F w v l hs hT hv hk h1 h60 hm hx
set_option maxHeartbeats 8000000 in
theorem RootOk_at (F : Fz) (w : World) (v : Value) (l : List Pr) (hs : Sat w F) (hT : Tabs w) (hv : Prs F v l) (ok : TreeOk 60 l) (hz : 1 ≤ l.length) :
    Calls Tryd.prog 22 #[v] w (Gives w F (SumR (rootT l) 0)) := by
 obtain ⟨a, c, rfl, hc1, hc2⟩ := Sl.shape hv
 unfold maxLen at hc2
 have S := St.start hs
 go_enter Tryd.func22, Tryd.ntmps22
 refine wp_seq_k (fun K1 hK1 => region_wl ?_)
 refine do_ rfl (.slice none 0 0) (ex_assign _) ?_
 simp only [pS, pN, pA, pC, pZ]
 refine do_ rfl (.int .i64 0) (ex_assign _) ?_
 simp only [pS, pN, pA, pC, pZ]
 refine wl_nil (hK1 _ _ ?_)
 refine wp_seq_k (fun K2 hK2 => ?_)
 refine wp_seq_k (fun K3 hK3 => region_wl ?_)
 refine do_ rfl (.slice a l.length c) (ex_move _) ?_
 simp only [pS, pN, pA, pC, pZ]
 refine stTells (v := (.int .i64 0)) S rfl (ex_fn (vs := #[(.slice a l.length c)]) (map1 rfl) rfl (ent_26 _ _)) (treeCheckOk_spec _ _ _ l (S).sat hv ok) (fun w4 S5 => ?_)
 simp only [pS, pN, pA, pC, pZ]
 refine do_ rfl (.int .i64 0) (ex_assign _) ?_
 simp only [pS, pN, pA, pC, pZ]
 refine wl_nil (hK3 _ _ ?_)
 refine wp_seq_k (fun K6 hK6 => region_wl ?_)
 refine do_ rfl (.int .i64 0) (ex_move _) ?_
 simp only [pS, pN, pA, pC, pZ]
 refine do_ rfl (.bool false) (ex_neq (m := (0 : Int)) (n := (0 : Int)) (b := false) rfl rfl (bne_eq_false_iff_eq.2 (by omega))) ?_
 simp only [pS, pN, pA, pC, pZ]
 refine wl_nil (hK6 _ _ ?_)
 refine wp_cond_false rfl ?_
 refine wp_skip ?_
 refine hK2 _ _ ?_
 refine wp_seq_k (fun K7 hK7 => ?_)
 refine wp_seq_k (fun K8 hK8 => region_wl ?_)
 refine do_ rfl (.slice a l.length c) (ex_move _) ?_
 simp only [pS, pN, pA, pC, pZ]
 refine do_ rfl (.int .i64 ((l.length : Nat) : Int)) (ex_len Tryd.underlying40 rfl) ?_
 simp only [pS, pN, pA, pC, pZ]
 refine do_ rfl (.bool false) (ex_eql (m := ((l.length : Nat) : Int)) (n := (0 : Int)) (b := false) rfl rfl (beq_eq_false_iff_ne.2 (by omega))) ?_
 simp only [pS, pN, pA, pC, pZ]
 refine wl_nil (hK8 _ _ ?_)
 refine wp_cond_false rfl ?_
 refine wp_skip ?_
 refine hK7 _ _ ?_
 refine wp_seq_k (fun K9 hK9 => region_wl ?_)
 refine do_ rfl (.slice a l.length c) (ex_move _) ?_
 simp only [pS, pN, pA, pC, pZ]
 refine stGives S5 rfl (ex_fn (vs := #[(.slice a l.length c)]) (map1 rfl) rfl (ent_37 _ _)) (root_spec l.length _ _ _ l (S5).sat (hT.at S5.gr.below) hv ok.keys (by omega) ok.len (Nat.le_refl _) (fun p hp => (ok.ok p hp).2.2)) ?_
 intro v15 w10 F12 S11 le13 R14
 obtain ⟨xa16, xc17, rfl, _⟩ := R14.shape
 simp only [pS, pN, pA, pC, pZ]
 refine do_ rfl (.slice xa16 (rootT l).length xc17) (ex_assign _) ?_
 simp only [pS, pN, pA, pC, pZ]
 refine do_ rfl (.int .i64 0) (ex_assign _) ?_
 simp only [pS, pN, pA, pC, pZ]
 refine wl_nil (hK9 _ _ ?_)
 refine wp_ret ?_
 (try simp only [Exit.then, Exit.inBlock, ↓reduceIte, Nat.reduceEqDiff])
 refine bodyPost_ret (v := (.tuple #[(.slice xa16 (rootT l).length xc17), (.int .i64 0)])) ?_ rfl ?_
 ·exact res_tt rfl rfl rfl
 ·exact ⟨_, _, rfl, S11.gr, _, rfl, R14⟩
set_option maxHeartbeats 8000000 in
theorem RootNil_at (F : Fz) (w : World) (v : Value) (l : List Pr) (hs : Sat w F) (hT : Tabs w) (hv : Prs F v l) (ok : TreeOk 60 l) (hz : l.length = 0) :
    Calls Tryd.prog 22 #[v] w (Gives w F (SumR (rootT l) 0)) := by
 obtain ⟨a, c, rfl, hc1, hc2⟩ := Sl.shape hv
 unfold maxLen at hc2
 have S := St.start hs
 go_enter Tryd.func22, Tryd.ntmps22
 refine wp_seq_k (fun K1 hK1 => region_wl ?_)
 refine do_ rfl (.slice none 0 0) (ex_assign _) ?_
 simp only [pS, pN, pA, pC, pZ]
 refine do_ rfl (.int .i64 0) (ex_assign _) ?_
 simp only [pS, pN, pA, pC, pZ]
 refine wl_nil (hK1 _ _ ?_)
 refine wp_seq_k (fun K2 hK2 => ?_)
 refine wp_seq_k (fun K3 hK3 => region_wl ?_)
 refine do_ rfl (.slice a l.length c) (ex_move _) ?_
 simp only [pS, pN, pA, pC, pZ]
 refine stTells (v := (.int .i64 0)) S rfl (ex_fn (vs := #[(.slice a l.length c)]) (map1 rfl) rfl (ent_26 _ _)) (treeCheckOk_spec _ _ _ l (S).sat hv ok) (fun w4 S5 => ?_)
 simp only [pS, pN, pA, pC, pZ]
 refine do_ rfl (.int .i64 0) (ex_assign _) ?_
 simp only [pS, pN, pA, pC, pZ]
 refine wl_nil (hK3 _ _ ?_)
 refine wp_seq_k (fun K6 hK6 => region_wl ?_)
 refine do_ rfl (.int .i64 0) (ex_move _) ?_
 simp only [pS, pN, pA, pC, pZ]
 refine do_ rfl (.bool false) (ex_neq (m := (0 : Int)) (n := (0 : Int)) (b := false) rfl rfl (bne_eq_false_iff_eq.2 (by omega))) ?_
 simp only [pS, pN, pA, pC, pZ]
 refine wl_nil (hK6 _ _ ?_)
 refine wp_cond_false rfl ?_
 refine wp_skip ?_
 refine hK2 _ _ ?_
 refine wp_seq_k (fun K7 hK7 => ?_)
 refine wp_seq_k (fun K8 hK8 => region_wl ?_)
 refine do_ rfl (.slice a l.length c) (ex_move _) ?_
 simp only [pS, pN, pA, pC, pZ]
 refine do_ rfl (.int .i64 ((l.length : Nat) : Int)) (ex_len Tryd.underlying40 rfl) ?_
 simp only [pS, pN, pA, pC, pZ]
 refine do_ rfl (.bool true) (ex_eql (m := ((l.length : Nat) : Int)) (n := (0 : Int)) (b := true) rfl rfl (beq_iff_eq.2 (by omega))) ?_
 simp only [pS, pN, pA, pC, pZ]
 refine wl_nil (hK8 _ _ ?_)
 refine wp_cond_true rfl ?_
 refine wp_seq_k (fun K9 hK9 => region_wl ?_)
 refine stGives S5 rfl (ex_fn (vs := #[(.int .u8 0), (.slice none 0 0)]) (map2 rfl rfl) rfl (ent_20 _ _)) (Parts_spec _ _ _ 0 [] (S5).sat (hT.at S5.gr.below) (Sl.nil 1 LsC _) (by simp)) ?_
 intro v15 w10 F12 S11 le13 R14
 obtain ⟨x16, rfl, r17⟩ := R14
 obtain ⟨xa18, xc19, rfl, _⟩ := r17.shape
 have r17 : Bs _ (.slice xa18 (rootT ([] : List Pr)).length xc19) (rootT ([] : List Pr)) := r17
 simp only [pS, pN, pA, pC, pZ]
 refine do_ rfl (.slice xa18 (rootT ([] : List Pr)).length xc19) (ex_extract rfl rfl) ?_
 simp only [pS, pN, pA, pC, pZ]
 refine do_ rfl (.int .i64 0) (ex_extract rfl rfl) ?_
 simp only [pS, pN, pA, pC, pZ]
 refine do_ rfl (.slice xa18 (rootT ([] : List Pr)).length xc19) (ex_assign _) ?_
 simp only [pS, pN, pA, pC, pZ]
 refine do_ rfl (.int .i64 0) (ex_assign _) ?_
 simp only [pS, pN, pA, pC, pZ]
 refine wl_nil (hK9 _ _ ?_)
 refine wp_ret ?_
 (try simp only [Exit.then, Exit.inBlock, ↓reduceIte, Nat.reduceEqDiff])
 refine bodyPost_ret (v := (.tuple #[(.slice xa18 (rootT ([] : List Pr)).length xc19), (.int .i64 0)])) ?_ rfl ?_
 ·exact res_tt rfl rfl rfl
 ·exact ⟨_, _, rfl, S11.gr, _, rfl, bs_app r17 (by rw [List.eq_nil_of_length_eq_zero hz])⟩
set_option maxHeartbeats 8000000 in
theorem RootBad_spec (F : Fz) (w : World) (v : Value) (l : List Pr) (hs : Sat w F) (hv : Prs F v l) (he : treeE l ≠ 0) :
    Calls Tryd.prog 22 #[v] w (Tells w (.tuple #[.slice none 0 0, .int .i64 (treeE l)])) := by
 obtain ⟨a, c, rfl, hc1, hc2⟩ := Sl.shape hv
 unfold maxLen at hc2
 have S := St.start hs
 go_enter Tryd.func22, Tryd.ntmps22
 refine wp_seq_k (fun K1 hK1 => region_wl ?_)
 refine do_ rfl (.slice none 0 0) (ex_assign _) ?_
 simp only [pS, pN, pA, pC, pZ]
 refine do_ rfl (.int .i64 0) (ex_assign _) ?_
 simp only [pS, pN, pA, pC, pZ]
 refine wl_nil (hK1 _ _ ?_)
 refine wp_seq_k (fun K2 hK2 => ?_)
 refine wp_seq_k (fun K3 hK3 => region_wl ?_)
 refine do_ rfl (.slice a l.length c) (ex_move _) ?_
 simp only [pS, pN, pA, pC, pZ]
 refine stTells (v := (.int .i64 (treeE l))) S rfl (ex_fn (vs := #[(.slice a l.length c)]) (map1 rfl) rfl (ent_26 _ _)) (treeCheck_spec _ _ _ l (S).sat hv) (fun w4 S5 => ?_)
 simp only [pS, pN, pA, pC, pZ]
 refine do_ rfl (.int .i64 (treeE l)) (ex_assign _) ?_
 simp only [pS, pN, pA, pC, pZ]
 refine wl_nil (hK3 _ _ ?_)
 refine wp_seq_k (fun K6 hK6 => region_wl ?_)
 refine do_ rfl (.int .i64 (treeE l)) (ex_move _) ?_
 simp only [pS, pN, pA, pC, pZ]
 refine do_ rfl (.bool true) (ex_neq (m := (treeE l)) (n := (0 : Int)) (b := true) rfl rfl (bne_iff_ne.2 (he))) ?_
 simp only [pS, pN, pA, pC, pZ]
 refine wl_nil (hK6 _ _ ?_)
 refine wp_cond_true rfl ?_
 refine wp_seq_k (fun K7 hK7 => region_wl ?_)
 refine do_ rfl (.int .i64 (treeE l)) (ex_move _) ?_
 simp only [pS, pN, pA, pC, pZ]
 refine do_ rfl (.slice none 0 0) (ex_assign _) ?_
 simp only [pS, pN, pA, pC, pZ]
 refine do_ rfl (.int .i64 (treeE l)) (ex_assign _) ?_
 simp only [pS, pN, pA, pC, pZ]
 refine wl_nil (hK7 _ _ ?_)
 refine wp_ret ?_
 (try simp only [Exit.then, Exit.inBlock, ↓reduceIte, Nat.reduceEqDiff])
 refine bodyPost_ret (v := (.tuple #[(.slice none 0 0), (.int .i64 (treeE l))])) ?_ rfl ?_
 ·exact res_tt rfl rfl rfl
 ·exact ⟨rfl, S5.gr.below⟩
theorem Root_spec (F : Fz) (w : World) (v : Value) (l : List Pr) (hs : Sat w F) (hT : Tabs w) (hv : Prs F v l) (ok : TreeOk 60 l) :
    Calls Tryd.prog 22 #[v] w (Gives w F (SumR (rootT l) 0)) := by
  rcases Nat.eq_zero_or_pos l.length with h | h
  · exact RootNil_at F w v l hs hT hv ok h
  · exact RootOk_at F w v l hs hT hv ok h
end Go.Proofs.YtcanckliggcllaaDoor
namespace Go.Proofs.YtcanckliggcllaaDoor
open Go.ChangeShapes Go.WideShapes Go.ChangeAt Go.RowKit
set_option maxRecDepth 100000
def roundsZ : List Int := [1, 32898, 9223372036854808714, 9223372039002292224, 32907, 2147483649, 9223372039002292353, 9223372036854808585, 138, 136, 2147516425, 2147483658, 2147516555, 9223372036854775947, 9223372036854808713, 9223372036854808579, 9223372036854808578, 9223372036854775936, 32778, 9223372039002259466, 9223372039002292353, 9223372036854808704, 2147483649, 9223372039002292232]
theorem gRounds : Tryd.prog.globalNamed "canopy/digest.rounds" = some 2 := by kernel_rfl
theorem gRoundsType : (Tryd.prog.globals[(2 : Nat)]?).map (·.type) = some 91 := by kernel_rfl
theorem gRoundsCells : Tryd.prog.cellsOf 91 = 24 := by kernel_rfl
theorem gRoundsOne : Tryd.prog.cellsOf 88 = 1 := by kernel_rfl
def goesZ : List Int := [10, 7, 11, 17, 18, 3, 5, 16, 8, 21, 24, 4, 15, 23, 19, 13, 12, 2, 20, 14, 22, 9, 6, 1]
theorem gGoes : Tryd.prog.globalNamed "canopy/digest.goes" = some 0 := by kernel_rfl
theorem gGoesType : (Tryd.prog.globals[(0 : Nat)]?).map (·.type) = some 109 := by kernel_rfl
theorem gGoesCells : Tryd.prog.cellsOf 109 = 24 := by kernel_rfl
theorem gGoesOne : Tryd.prog.cellsOf 3 = 1 := by kernel_rfl
def turnsZ : List Int := [1, 3, 6, 10, 15, 21, 28, 36, 45, 55, 2, 14, 27, 41, 56, 8, 25, 43, 62, 18, 39, 61, 20, 44]
theorem gTurns : Tryd.prog.globalNamed "canopy/digest.turns" = some 1 := by kernel_rfl
theorem gTurnsType : (Tryd.prog.globals[(1 : Nat)]?).map (·.type) = some 109 := by kernel_rfl
theorem gTurnsCells : Tryd.prog.cellsOf 109 = 24 := by kernel_rfl
theorem gTurnsOne : Tryd.prog.cellsOf 3 = 1 := by kernel_rfl
theorem goes_are : ∀ i, i < 24 → goesZ.getD i 0 = (goesN i : Int) := by decide +kernel
theorem turns_are : ∀ i, i < 24 → turnsZ.getD i 0 = (turnsN i : Int) := by decide +kernel
theorem rounds_are : ∀ i, i < 24 → roundsZ.getD i 0 = lane (roundB i) := by unfold lane; decide +kernel
theorem tab_at {W : World} {name : String} {k : IntKind} {zs : List Int} {g : Nat} (h : Lib.TabIs Tryd.prog W name k zs) (hg : Tryd.prog.globalNamed name = some g) {n : Nat} (hn : zs.length = n) {i : Nat} (hi : i < n) : W.cell? ⟨g, i, none⟩ = some (.int k (zs.getD i 0)) := by
  have hi' : i < zs.length := by omega
  have := h.cell hg i hi'
  exact this.trans (by simp [List.getD, hi'])
theorem dig_met {W : World} (h : laidMetH Tryd.prog [("canopy/digest.rounds", Rows.laid_canopy_digest_rounds), ("canopy/digest.goes", Rows.laid_canopy_digest_goes), ("canopy/digest.turns", Rows.laid_canopy_digest_turns)] W) : Tabs W := by
  have hr : Lib.TabIs Tryd.prog W "canopy/digest.rounds" .u64 roundsZ :=
    tabIs_at (l := [("canopy/digest.rounds", Rows.laid_canopy_digest_rounds), ("canopy/digest.goes", Rows.laid_canopy_digest_goes), ("canopy/digest.turns", Rows.laid_canopy_digest_turns)]) h 0 _ _ _ rfl gRounds gRoundsType Tryd.underlying91 Tryd.underlying88 gRoundsOne gRoundsCells
  have hg : Lib.TabIs Tryd.prog W "canopy/digest.goes" .i64 goesZ :=
    tabIs_at (l := [("canopy/digest.rounds", Rows.laid_canopy_digest_rounds), ("canopy/digest.goes", Rows.laid_canopy_digest_goes), ("canopy/digest.turns", Rows.laid_canopy_digest_turns)]) h 1 _ _ _ rfl gGoes gGoesType Tryd.underlying109 Tryd.underlying3 gGoesOne gGoesCells
  have ht : Lib.TabIs Tryd.prog W "canopy/digest.turns" .i64 turnsZ :=
    tabIs_at (l := [("canopy/digest.rounds", Rows.laid_canopy_digest_rounds), ("canopy/digest.goes", Rows.laid_canopy_digest_goes), ("canopy/digest.turns", Rows.laid_canopy_digest_turns)]) h 2 _ _ _ rfl gTurns gTurnsType Tryd.underlying109 Tryd.underlying3 gTurnsOne gTurnsCells
  refine ⟨fun i hi => ?_, fun i hi => ?_, fun i hi => ?_⟩
  · rw [tab_at hg gGoes (n := 24) rfl hi, goes_are i hi]
  · rw [tab_at ht gTurns (n := 24) rfl hi, turns_are i hi]
  · rw [tab_at hr gRounds (n := 24) rfl hi, rounds_are i hi]
def setCells (cs : Array Value) : Obj → Obj
  | .cells _ t frozen => .cells cs t frozen
  | o => o
noncomputable def digWorld (os : Os) : World :=
  { World.holding Tryd.prog os ⟨#[], #[], []⟩ with heap := (((World.holding Tryd.prog os ⟨#[], #[], []⟩).heap.modify 2 (setCells #[.int .u64 1, .int .u64 32898, .int .u64 9223372036854808714, .int .u64 9223372039002292224, .int .u64 32907, .int .u64 2147483649, .int .u64 9223372039002292353, .int .u64 9223372036854808585, .int .u64 138, .int .u64 136, .int .u64 2147516425, .int .u64 2147483658, .int .u64 2147516555, .int .u64 9223372036854775947, .int .u64 9223372036854808713, .int .u64 9223372036854808579, .int .u64 9223372036854808578, .int .u64 9223372036854775936, .int .u64 32778, .int .u64 9223372039002259466, .int .u64 9223372039002292353, .int .u64 9223372036854808704, .int .u64 2147483649, .int .u64 9223372039002292232])).modify 0 (setCells #[.int .i64 10, .int .i64 7, .int .i64 11, .int .i64 17, .int .i64 18, .int .i64 3, .int .i64 5, .int .i64 16, .int .i64 8, .int .i64 21, .int .i64 24, .int .i64 4, .int .i64 15, .int .i64 23, .int .i64 19, .int .i64 13, .int .i64 12, .int .i64 2, .int .i64 20, .int .i64 14, .int .i64 22, .int .i64 9, .int .i64 6, .int .i64 1])).modify 1 (setCells #[.int .i64 1, .int .i64 3, .int .i64 6, .int .i64 10, .int .i64 15, .int .i64 21, .int .i64 28, .int .i64 36, .int .i64 45, .int .i64 55, .int .i64 2, .int .i64 14, .int .i64 27, .int .i64 41, .int .i64 56, .int .i64 8, .int .i64 25, .int .i64 43, .int .i64 62, .int .i64 18, .int .i64 39, .int .i64 61, .int .i64 20, .int .i64 44]) }
end Go.Proofs.YtcanckliggcllaaDoor
