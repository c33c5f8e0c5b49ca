/- Walks: some, key, same, path.Check, path.bit, path.Bit, path.Part, picked, Kept -/
import Derived.Test.YteefnnnbbmbmcaaA
import Derived.Deep.QuietTactic
import Derived.BigQuiet
namespace Go.Proofs.Yteefnnnbbmbmcaa
open Go.RowKit
set_option maxRecDepth 100000

theorem infoU8 : (Try.prog.info? 5).map (fun i => (i.zero, i.size, i.bytes)) = some (some (.int .u8 0), 1, 1) := by kernel_rfl

set_option maxHeartbeats 400000 in
theorem some_spec (F : Fz) (w : World) (v : Value) (l : List UInt8) (mi : Int) (hs : Sat w F) (hv : Bs F v l) (h0 : 0 ≤ mi) (hm : mi ≤ 100000) :
    Calls Try.prog 52 #[v, .int .i64 mi] w (Gives w F fun F' u => Bs F' u (l.take mi.toNat)) := by
  obtain ⟨m, rfl⟩ := Int.eq_ofNat_of_zero_le h0
  rw [Int.toNat_natCast]
  obtain ⟨a, c, rfl, hlc, hcm⟩ := hv.shape
  obtain ⟨i, hi, hz0, hz1, hz2⟩ := info_parts infoU8
  have hcm' := hcm
  unfold maxLen at hcm
  by_cases hmin : l.length ≤ m
  · have hr := hv.takeN (Nat.le_refl _)
    go_enter Try.func52, Try.ntmps52
    go_wp2_with (at_builtin; go_loud (refine wpList_append_any rfl _ _ 27 rfl w.heap.size 5 i (.int .u8 0) 1 1 Try.underlying27 hi hz0 hz1 hz2 rfl (by decide) rfl (World.ownsRow_nil w _ _ _) rfl hs hr (by simp) (bv_oneCell _) (by unfold maxLen; omega) (by omega) (Nat.le_refl _) ?_))
    intro v1 w1 hown hg _
    go_wp2
    go_ret
    obtain ⟨F', h1, h2⟩ := Gr.row hs (below_nil hg rfl) hown
    exact ⟨_, F', rfl, h1, by simpa [Bs, List.take_of_length_le hmin] using h2⟩
  · have hr := hv.takeN (k := m) (by omega)
    go_enter Try.func52, Try.ntmps52
    go_wp2_with (at_builtin; go_loud (refine wpList_append_any rfl _ _ 27 rfl w.heap.size 5 i (.int .u8 0) 1 1 Try.underlying27 hi hz0 hz1 hz2 rfl (by decide) rfl (World.ownsRow_nil w _ _ _) rfl hs hr (by simp; omega) (bv_oneCell _) (by unfold maxLen; omega) (by omega) (Nat.le_refl _) ?_))
    intro v1 w1 hown hg _
    go_wp2
    go_ret
    obtain ⟨F', h1, h2⟩ := Gr.row hs (below_nil hg rfl) hown
    exact ⟨_, F', rfl, h1, by simpa [Bs, Nat.min_eq_left (show m ≤ l.length by omega)] using h2⟩

def keyL (l : List UInt8) : List UInt8 := if l = [] then [0] else l.take 16
theorem keyL_len (l : List UInt8) : 1 ≤ (keyL l).length ∧ (keyL l).length ≤ 16 := by
  unfold keyL
  split
  · simp
  · rename_i h
    have := List.length_pos_iff.2 h
    simp only [List.length_take]
    omega
set_option maxHeartbeats 400000 in
theorem key_spec (F : Fz) (w : World) (v : Value) (l : List UInt8) (hs : Sat w F) (hv : Bs F v l) :
    Calls Try.prog 44 #[v] w (Gives w F fun F' u => Bs F' u (keyL l)) := by
  obtain ⟨a, c, rfl, hlc, hcm⟩ := hv.shape
  by_cases h : l = []
  · subst h
    go_enter Try.func44, Try.ntmps44
    go_wp2_with fail
    go_ret
    have hown := World.ownsRow_lit (base := w.heap.size) (e := 5) (size := 1) w #[.int .u8 0] 1 (Nat.le_refl _) (by unfold maxLen; omega) rfl
    obtain ⟨F', h1, h2⟩ := Gr.row hs ((Below.refl _ _).alloc (Nat.le_refl _) _) hown
    exact ⟨_, F', rfl, h1, h2⟩
  · have hb : ((l.length : Int) == 0) = false := by
      have := List.length_pos_iff.2 h
      rw [beq_eq_false_iff_ne]; omega
    have hk : keyL l = l.take 16 := by unfold keyL; rw [if_neg h]
    rw [hk]
    clear hk
    go_enter Try.func44, Try.ntmps44
    go_wp2_with (go_at_call 52; refine (some_spec _ _ _ _ _ hs hv (by omega) (by omega)).mono ?_; rintro e w1 ⟨v1, F1, rfl, g1, r1⟩)
    go_ret
    exact ⟨_, F1, rfl, g1, r1⟩
set_option maxHeartbeats 400000 in
theorem same_spec (F : Fz) (w : World) (v u : Value) (l m : List UInt8) (hs : Sat w F) (hv : Bs F v l) (hu : Bs F u m) :
    Calls Try.prog 46 #[v, u] w fun e w' => e = .returned (.bool (l == m)) ∧ w' = w := by
  have e1 := run_string (P := Try.prog) (src := 27) (dst := 9) Try.underlying27 Try.underlying5 Try.underlying9 hs hv
  have e2 := run_string (P := Try.prog) (src := 27) (dst := 9) Try.underlying27 Try.underlying5 Try.underlying9 hs hu
  go_enter Try.func46, Try.ntmps46
  go_wp2
  go_ret
  exact ⟨rfl, rfl⟩
def checkN (n : Nat) : Int := if 1 ≤ n ∧ n ≤ 16 then 0 else 1
theorem checkN_ok {n : Nat} (h1 : 1 ≤ n) (h2 : n ≤ 16) : checkN n = 0 := by unfold checkN; rw [if_pos ⟨h1, h2⟩]
theorem checkN_bad {n : Nat} (h : ¬ (1 ≤ n ∧ n ≤ 16)) : checkN n = 1 := by unfold checkN; rw [if_neg h]
set_option maxHeartbeats 400000 in
theorem check_len (w : World) (a : Option Addr) (n c : Nat) (_hlc : n ≤ c) (_hcm : c ≤ maxLen) :
    Calls Try.prog 41 #[.slice a n c] w fun e w' => e = .returned (.int .i64 (checkN n)) ∧ w' = w := by
  by_cases h : 1 ≤ n ∧ n ≤ 16
  · rw [checkN_ok h.1 h.2]
    obtain ⟨h1, h2⟩ := h
    go_enter Try.func41, Try.ntmps41
    go_wp2
    go_ret
    exact ⟨rfl, rfl⟩
  · rw [checkN_bad h]
    by_cases h1 : n < 1
    · clear h
      go_enter Try.func41, Try.ntmps41
      go_wp2
      go_ret
      exact ⟨rfl, rfl⟩
    · have h2 : 16 < n := by omega
      clear h
      go_enter Try.func41, Try.ntmps41
      go_wp2
      go_ret
      exact ⟨rfl, rfl⟩
theorem check_spec (F : Fz) (w : World) (v : Value) (l : List UInt8) (hv : Bs F v l) :
    Calls Try.prog 41 #[v] w fun e w' => e = .returned (.int .i64 (checkN l.length)) ∧ w' = w := by
  obtain ⟨a, c, rfl, hlc, hcm⟩ := hv.shape
  exact check_len w a _ c hlc hcm
theorem and_one_testBit (x k : Nat) (hx : x < 256) : (bits .and .u8 ((x : Int) / 2 ^ k) 1 == 1) = x.testBit k := by
  have e : ((x : Int) / 2 ^ k) = ((x / 2 ^ k : Nat) : Int) := by simp
  have h := u8_and_nat (x / 2 ^ k) 1 (Nat.lt_of_le_of_lt (Nat.div_le_self _ _) hx) (by omega)
  rw [e]
  rw [show ((1 : Nat) : Int) = 1 from rfl] at h
  rw [h, Nat.and_one_is_mod, Nat.testBit_eq_decide_div_mod_eq]
  rw [Bool.eq_iff_iff]
  simp
  omega
def bitL (l : List UInt8) (i : Nat) : Bool :=
  if i / 9 < l.length then (if i % 9 = 0 then true else (l.getD (i / 9) 0).toNat.testBit (8 - i % 9)) else false
set_option maxHeartbeats 400000 in
theorem bit_spec (F : Fz) (w : World) (v : Value) (l : List UInt8) (ii : Int) (hs : Sat w F) (hv : Bs F v l) (h0 : 0 ≤ ii) (hm : ii ≤ 100000) :
    Calls Try.prog 81 #[v, .int .i64 ii] w fun e w' => e = .returned (.bool (bitL l ii.toNat)) ∧ w' = w := by
  obtain ⟨i, rfl⟩ := Int.eq_ofNat_of_zero_le h0
  rw [Int.toNat_natCast]
  obtain ⟨a, c, rfl, hlc, hcm⟩ := hv.shape
  unfold maxLen at hcm
  by_cases h1 : i / 9 < l.length
  · obtain ⟨b, o, rfl, hc⟩ := hv.addr (by omega)
    have hcell := hs.cell (hc (i / 9) h1)
    clear hc
    by_cases h2 : i % 9 = 0
    · have hp : (((i : Int) % 9) == 0) = true := by rw [beq_iff_eq]; omega
      have hv : Hid (bitL l i = true) := by unfold Hid bitL; rw [if_pos h1, if_pos h2]
      clear h2
      go_enter Try.func81, Try.ntmps81
      go_wp2
      go_ret
      exact ⟨by rw [hv.out]; rfl, rfl⟩
    · have hp : (((i : Int) % 9) == 0) = false := by rw [beq_eq_false_iff_ne]; omega
      go_enter Try.func81, Try.ntmps81
      go_wp2
      go_ret
      refine ⟨?_, rfl⟩
      show Ending.returned (.bool _) = _
      rw [and_one_testBit _ _ (UInt8.toNat_lt _)]
      unfold bitL
      rw [if_pos h1, if_neg h2]
      simp [List.getD, h1]
  · have hv : Hid (bitL l i = false) := by unfold Hid bitL; rw [if_neg h1]
    go_enter Try.func81, Try.ntmps81
    go_wp2
    go_ret
    exact ⟨by rw [hv.out]; rfl, rfl⟩

/-- The first place from i on, of n, at which two keys differ. -/
def partFrom (a b : List UInt8) : Nat → Nat → Int
  | 0, _ => -1
  | n + 1, i => if bitL a i = bitL b i then partFrom a b n (i + 1) else i
def partL (a b : List UInt8) : Int := partFrom a b 145 0
set_option maxHeartbeats 400000 in
theorem bitE_spec (F : Fz) (w : World) (v : Value) (l : List UInt8) (ii : Int) (hs : Sat w F) (hv : Bs F v l) (hl : 1 ≤ l.length) (hl2 : l.length ≤ 16) (h0 : 0 ≤ ii) (hm : ii < 145) :
    Calls Try.prog 45 #[v, .int .i64 ii] w fun e w' => e = .returned (.tuple #[.bool (bitL l ii.toNat), .int .i64 0]) ∧ w' = w := by
  have hc := check_spec F w v l hv
  rw [checkN_ok hl hl2] at hc
  have HC := hid hc
  clear hc
  go_enter Try.func45, Try.ntmps45
  go_wp2_with (first | (go_at_call 41; refine HC.out.mono ?_; rintro e w' ⟨rfl, rfl⟩) | (go_at_call 81; refine (bit_spec F _ _ l _ hs hv (by omega) (by omega)).mono ?_; rintro e w' ⟨rfl, rfl⟩))
  go_ret2
  exact ⟨rfl, rfl⟩
theorem partFrom_step {a b : List UInt8} {n i : Nat} (h : bitL a i = bitL b i) : partFrom a b (n + 1) i = partFrom a b n (i + 1) := by
  rw [partFrom, if_pos h]

set_option maxHeartbeats 400000 in
theorem part_spec (F : Fz) (w : World) (v u : Value) (a b : List UInt8) (hs : Sat w F) (hv : Bs F v a) (hu : Bs F u b) (ha : 1 ≤ a.length) (ha2 : a.length ≤ 16) (hb : 1 ≤ b.length) (hb2 : b.length ≤ 16) :
    Calls Try.prog 47 #[v, u] w fun e w' => e = .returned (.tuple #[.int .i64 (partL a b), .int .i64 0]) ∧ w' = w := by
  have hc := check_spec F w v a hv
  rw [checkN_ok ha ha2] at hc
  have hd := check_spec F w u b hu
  rw [checkN_ok hb hb2] at hd
  have HC := hid hc
  have HD := hid hd
  clear hc hd
  go_enter Try.func47, Try.ntmps47
  go_wp2_with fail
  refine HC.out.mono ?_; rintro e w' ⟨rfl, rfl⟩
  go_wp2_with fail
  refine HD.out.mono ?_; rintro e w' ⟨rfl, rfl⟩
  go_wp2_with fail
  go_loop [19] (fun t => ∃ k : Nat, k ≤ 145 ∧ t = .int .i64 k ∧ partL a b = partFrom a b (145 - k) k) (fun t => 145 - (intOf t).toNat)
  case atStart => exact ⟨0, by omega, rfl, rfl⟩
  case round =>
    obtain ⟨k, hk, rfl, hp⟩ := hrel
    have HP := hid hp
    clear hp
    by_cases hlt : k < 145
    · by_cases he : bitL a k = bitL b k
      · have hq : ((bitL a k) == (bitL b k)) = true := by simp [he]
        have HE := hid he
        clear he
        go_wp2_with fail
        refine (bit_spec F _ _ a _ hs hv (by omega) (by omega)).mono ?_; rintro e w' ⟨rfl, rfl⟩
        go_wp2_with fail
        refine (bit_spec F _ _ b _ hs hu (by omega) (by omega)).mono ?_; rintro e w' ⟨rfl, rfl⟩
        go_wp2_with fail
        refine ⟨⟨k + 1, by omega, by go_num, ?_⟩, by simp [intOf]; omega⟩
        have h1 := HP.out
        rw [show 145 - k = (145 - (k + 1)) + 1 from by omega, partFrom_step HE.out] at h1
        exact h1
      · have hq : ((bitL a k) == (bitL b k)) = false := by simp [he]
        have HE := hid he
        clear he
        go_wp2_with fail
        refine (bit_spec F _ _ a _ hs hv (by omega) (by omega)).mono ?_; rintro e w' ⟨rfl, rfl⟩
        go_wp2_with fail
        refine (bit_spec F _ _ b _ hs hu (by omega) (by omega)).mono ?_; rintro e w' ⟨rfl, rfl⟩
        go_wp2_with fail
        go_ret2
        have h1 := HP.out
        rw [show 145 - k = (145 - (k + 1)) + 1 from by omega, partFrom, if_neg HE.out] at h1
        exact ⟨by rw [h1]; rfl, rfl⟩
    · go_wp2_with fail
      go_ret2
      have h1 := HP.out
      rw [show 145 - k = 0 from by omega, partFrom] at h1
      exact ⟨by rw [h1]; rfl, rfl⟩

def pick (n m : Int) : Int := (if n < 0 then -(n + 1) else n) % m
theorem pick_bd (n m : Int) (h : 1 ≤ m) : 0 ≤ pick n m ∧ pick n m < m := by
  unfold pick
  exact ⟨Int.emod_nonneg _ (by omega), Int.emod_lt_of_pos _ (by omega)⟩
set_option maxHeartbeats 400000 in
theorem picked_spec (n m : Int) (w : World) (h1 : -9223372036854775808 ≤ n) (h2 : n ≤ 9223372036854775807) (hm : 1 ≤ m) (hm2 : m ≤ 10000000) :
    Calls Try.prog 39 #[.int .i64 n, .int .i64 m] w fun e w' => e = .returned (.int .i64 (pick n m)) ∧ w' = w := by
  by_cases h : n < 0
  · have hp : Hid (pick n m = -((n + 1).tmod m)) := by unfold Hid pick; rw [if_pos h, ← Int.neg_tmod, Int.tmod_eq_emod_of_nonneg (by omega)]
    go_enter Try.func39, Try.ntmps39
    go_wp2
    go_ret
    refine ⟨?_, rfl⟩
    rw [hp.out]
    rfl
  · have hp : Hid (pick n m = n % m) := by unfold Hid pick; rw [if_neg h]
    go_enter Try.func39, Try.ntmps39
    go_wp2
    go_ret
    exact ⟨by rw [hp.out]; rfl, rfl⟩
end Go.Proofs.Yteefnnnbbmbmcaa
