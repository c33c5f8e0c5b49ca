/- Walk of the law BitsTell -/
import Derived.Test.YteefnnnbbmbmcaaM1
namespace Go.Proofs.Yteefnnnbbmbmcaa
open Go.RowKit
set_option maxRecDepth 100000
theorem bitE_range (F : Fz) (w : World) (v : Value) (l : List UInt8) (hv : Bs F v l) (hl : 1 ≤ l.length) (hl2 : l.length ≤ 16) (ii : Int) (hm : 145 ≤ ii) :
    Calls Try.prog 45 #[v, .int .i64 ii] w fun e w' => e = .returned (.tuple #[.bool false, .int .i64 2]) ∧ w' = w := by
  have hc := check_spec F w v l hv
  rw [checkN_ok hl hl2] at hc
  have HC := hid hc
  clear hc
  go_enter Try.func45, Try.ntmps45
  go_wp2_with (first | (go_at_call 41; refine HC.out.mono ?_; rintro e w' ⟨rfl, rfl⟩))
  go_ret2
  exact ⟨rfl, rfl⟩
theorem bitE_size (w : World) (a : Option Addr) (n c : Nat) (hl : ¬ (1 ≤ n ∧ n ≤ 16)) (hn : n ≤ c) (hc : c ≤ maxLen) (ii : Int) :
    Calls Try.prog 45 #[.slice a n c, .int .i64 ii] w fun e w' => e = .returned (.tuple #[.bool false, .int .i64 1]) ∧ w' = w := by
  have hc := check_len w a n c hn hc
  rw [checkN_bad hl] at hc
  have HC := hid hc
  clear hc hl
  go_enter Try.func45, Try.ntmps45
  go_wp2_with (first | (go_at_call 41; refine HC.out.mono ?_; rintro e w' ⟨rfl, rfl⟩))
  go_ret2
  exact ⟨rfl, rfl⟩
theorem bitL_head (a : List UInt8) (k : Nat) : bitL a (9 * k) = decide (k < a.length) := by
  unfold bitL
  rw [show 9 * k / 9 = k from by omega, show 9 * k % 9 = 0 from by omega]
  by_cases h : k < a.length <;> simp [h]
theorem bitL_in (a : List UInt8) (k m : Nat) (hk : k < a.length) (hm : m < 8) : bitL a (9 * k + (m + 1)) = (a[k].toNat / 2 ^ (7 - m) % 2 == 1) := by
  unfold bitL
  rw [show (9 * k + (m + 1)) / 9 = k from by omega, show (9 * k + (m + 1)) % 9 = m + 1 from by omega, if_pos hk, if_neg (by omega), show 8 - (m + 1) = 7 - m from by omega, Nat.testBit_eq_decide_div_mod_eq]
  have : a.getD k 0 = a[k] := by simp [List.getD, hk]
  rw [this, Bool.eq_iff_iff]
  simp
theorem bitL_end (a : List UInt8) (h : a.length ≤ 16) : bitL a 144 = false := by
  unfold bitL
  rw [if_neg (by omega)]
theorem up_one (x m : Nat) (hm : m < 8) (h : (x / 2 ^ (7 - m) % 2 == 1) = true) : x / 2 ^ (8 - (m + 1)) = 2 * (x / 2 ^ (8 - m)) + 1 := by
  rw [show 8 - (m + 1) = 7 - m from by omega, show 8 - m = (7 - m) + 1 from by omega, Nat.pow_succ, ← Nat.div_div_eq_div_mul]
  rw [beq_iff_eq] at h
  omega
theorem up_zero (x m : Nat) (hm : m < 8) (h : (x / 2 ^ (7 - m) % 2 == 1) = false) : x / 2 ^ (8 - (m + 1)) = 2 * (x / 2 ^ (8 - m)) := by
  rw [show 8 - (m + 1) = 7 - m from by omega, show 8 - m = (7 - m) + 1 from by omega, Nat.pow_succ, ← Nat.div_div_eq_div_mul]
  rw [beq_eq_false_iff_ne] at h
  omega
set_option maxHeartbeats 2000000 in
theorem bitsTell_walk (w : World) (v : Value) (l : List UInt8) (hv : Bs (whole w) v l) :
    Calls Try.prog 6 #[v] w fun e w' => e = .returned (.bool true) ∧ Below w.heap.size w w' := by
  obtain ⟨p1, p2⟩ := keyL_len l
  obtain ⟨i, hi, hz0, hz1, hz2⟩ := info_parts infoU8
  go_enter Try.func6, Try.ntmps6
  go_wp2_with fail
  refine (key_spec _ _ _ l (Sat.whole w) hv).mono ?_; rintro e w1 ⟨v1, F1, rfl, g1, r1⟩
  generalize keyL l = a at *
  have hb1 := g1.below
  have hs1 := g1.sat
  clear g1
  go_wp2_with fail
  go_loopw [4, 5] (fun o t wr => ∃ k : Nat, k ≤ a.length ∧ t = .int .i64 k ∧ wr.ownsRow w1.heap.size 5 1 o k ((a.take k).map bv) ∧ Below w1.heap.size w1 wr) (fun _ t _ => a.length - (intOf t).toNat)
  case atStart => exact ⟨0, by omega, rfl, World.ownsRow_nil _ _ _ _, Below.refl _ _⟩
  case round =>
    obtain ⟨k, hk, rfl, hown, hbr⟩ := hrel
    have hsr := hs1.below hbr
    by_cases hlt : k < a.length
    · have hh := bitL_head a k
      rw [decide_eq_true hlt] at hh
      have HH := hid hh
      clear hh
      go_wp2_with fail
      refine (bitE_spec _ _ _ a _ hsr r1 p1 p2 (by omega) (by omega)).mono ?_; rintro e w' ⟨rfl, rfl⟩
      rw [show (9 * (k : Int)).toNat = 9 * k from by omega, HH.out]
      go_wp2_with fail
      have hx : a[k].toNat < 256 := UInt8.toNat_lt _
      go_loop [8, 9] (fun n j => ∃ m : Nat, m ≤ 8 ∧ j = .int .i64 (m + 1) ∧ n = .int .i64 ((a[k].toNat / 2 ^ (8 - m) : Nat) : Int)) (fun _ j => 9 - (intOf j).toNat)
      case atStart => exact ⟨0, by omega, rfl, by rw [show a[k].toNat / 2 ^ (8 - 0) = 0 from Nat.div_eq_of_lt (by omega)]; rfl⟩
      case round =>
        obtain ⟨m, hm, rfl, rfl⟩ := hrel
        have hle : a[k].toNat / 2 ^ (8 - m) ≤ a[k].toNat := Nat.div_le_self _ _
        by_cases hm8 : m < 8
        · have hbit := bitL_in a k m hlt hm8
          have u1 := up_one a[k].toNat m hm8
          have u0 := up_zero a[k].toNat m hm8
          have hle' : a[k].toNat / 2 ^ (8 - (m + 1)) ≤ a[k].toNat := Nat.div_le_self _ _
          generalize a[k].toNat / 2 ^ (8 - m) = q at *
          have U1 := hid u1
          have U0 := hid u0
          have HB := hid hbit
          clear u1 u0 hbit
          cases hb : (a[k].toNat / 2 ^ (7 - m) % 2 == 1) with
          | true =>
            have e := U1.out hb
            have HB' := HB.out.trans hb
            have E := hid e
            have HB2 := hid HB'
            clear e HB' hb
            go_wp2_with fail
            refine (bitE_spec _ _ _ a _ hsr r1 p1 p2 (by omega) (by omega)).mono ?_; rintro e w' ⟨rfl, rfl⟩
            rw [show (9 * (k : Int) + ((m : Int) + 1)).toNat = 9 * k + (m + 1) from by omega, HB2.out]
            go_wp2_with fail
            exact ⟨⟨m + 1, by omega, by go_num, by rw [E.out]; congr 1; omega⟩, by simp [intOf]; omega⟩
          | false =>
            have e := U0.out hb
            have HB' := HB.out.trans hb
            have E := hid e
            have HB2 := hid HB'
            clear e HB' hb
            go_wp2_with fail
            refine (bitE_spec _ _ _ a _ hsr r1 p1 p2 (by omega) (by omega)).mono ?_; rintro e w' ⟨rfl, rfl⟩
            rw [show (9 * (k : Int) + ((m : Int) + 1)).toNat = 9 * k + (m + 1) from by omega, HB2.out]
            go_wp2_with fail
            exact ⟨⟨m + 1, by omega, by go_num, by rw [E.out]; congr 1; omega⟩, by simp [intOf]; omega⟩
        · obtain rfl : m = 8 := by omega
          rw [show a[k].toNat / 2 ^ (8 - 8) = a[k].toNat from by simp]
          clear hle
          go_wp2_with (at_builtin; go_loud (refine wpList_append_own _ rfl _ _ 27 rfl w1.heap.size 5 i (.int .u8 0) 1 1 Try.underlying27 hi hz0 hz1 hz2 rfl (by decide) _ _ _ rfl (hown.alloc _) ⟨_, 0, none⟩ 1 1 [bv a[k]] rfl rfl ?c1 ?c2 ?c3 ?c4 ?c5 ?_))
          case c1 => exact fun j u hu => by simpa [bv] using hu
          case c2 => rfl
          case c3 => unfold maxLen; omega
          case c4 => omega
          case c5 => have := hbr.size; simp; omega
          intro v' w2 hown' hgrow _
          have hb2 : Below w1.heap.size w1 w2 := (hbr.alloc hbr.size _).grown hgrow (by have := hbr.size; simp; omega) (fun g hg => (hown.lt g hg).1)
          rw [show (a.map bv).take k ++ [bv a[k]] = (a.take (k + 1)).map bv from by rw [List.take_succ_eq_append_getElem hlt, List.map_append, List.map_take]; rfl] at hown'
          clear hgrow
          go_wp2_with fail
          all_goals exact ⟨⟨k + 1, by omega, by go_num, hown', hb2⟩, by simp [intOf]; omega⟩
    · obtain rfl : k = a.length := by omega
      have hh := bitL_head a a.length
      rw [decide_eq_false hlt] at hh
      have HH := hid hh
      have HE := hid (bitL_end a p2)
      rw [List.take_length] at hown
      obtain ⟨g, rg, _⟩ := Rw.of_owns hown hsr
      have hsg := hsr.addF g
      have r1g : Bs (addF F1 wr g) v1 a := r1.mono (addF_le F1 wr g)
      have rg' : Bs (addF F1 wr g) u4 a := rg
      have hb : Below w.heap.size w wr := hb1.trans (hbr.mono hb1.size)
      clear hh rg hown
      by_cases h16 : a.length < 16
      · go_wp2_with fail
        refine (bitE_spec _ _ _ a _ hsr r1 p1 p2 (by omega) (by omega)).mono ?_; rintro e w' ⟨rfl, rfl⟩
        rw [show (9 * (a.length : Int)).toNat = 9 * a.length from by omega, HH.out]
        go_wp2_with fail
        refine (bitE_spec _ _ _ a _ hsr r1 p1 p2 (by omega) (by omega)).mono ?_; rintro e w' ⟨rfl, rfl⟩
        rw [show (144 : Int).toNat = 144 from rfl, HE.out]
        go_wp2_with fail
        refine (bitE_range _ _ _ a r1 p1 p2 _ (by omega)).mono ?_; rintro e w' ⟨rfl, rfl⟩
        go_wp2_with fail
        refine (bitE_size _ _ _ _ (by omega) (by omega) (by unfold maxLen; omega) _).mono ?_; rintro e w' ⟨rfl, rfl⟩
        go_wp2_with (go_at_call 46; refine (same_spec _ _ _ _ a a hsg rg' r1g).mono ?_; rintro e w' ⟨rfl, rfl⟩)
        go_ret
        exact ⟨by simp, hb⟩
      · go_wp2_with fail
        refine (bitE_spec _ _ _ a _ hsr r1 p1 p2 (by omega) (by omega)).mono ?_; rintro e w' ⟨rfl, rfl⟩
        rw [show (144 : Int).toNat = 144 from rfl, HE.out]
        go_wp2_with fail
        refine (bitE_range _ _ _ a r1 p1 p2 _ (by omega)).mono ?_; rintro e w' ⟨rfl, rfl⟩
        go_wp2_with fail
        refine (bitE_size _ _ _ _ (by omega) (by omega) (by unfold maxLen; omega) _).mono ?_; rintro e w' ⟨rfl, rfl⟩
        go_wp2_with (go_at_call 46; refine (same_spec _ _ _ _ a a hsg rg' r1g).mono ?_; rintro e w' ⟨rfl, rfl⟩)
        go_ret
        exact ⟨by simp, hb⟩
end Go.Proofs.Yteefnnnbbmbmcaa
