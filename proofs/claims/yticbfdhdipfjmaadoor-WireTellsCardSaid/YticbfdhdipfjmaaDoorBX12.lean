/- Rules, plain laws and walks: WQ2 WQ3 -/
import Derived.Test.YticbfdhdipfjmaaDoorBX11
import Derived.Test.YticbfdhdipfjmaaDoorBX1
namespace Go.Proofs.YticbfdhdipfjmaaDoor
open Go.RowKit
set_option maxRecDepth 100000
set_option linter.unusedVariables false
set_option linter.unusedSimpArgs false
theorem nagg_58 (w : World) : (isAgg 58).run Tryd.prog w = .ok false w := by kernel_rfl
theorem sizeof_58 (w : World) : (sizeOf 58).run Tryd.prog w = .ok 1 w := by kernel_rfl
theorem Sl.dropW {α : Type} {k : Nat} {R : Fz → List Value → α → Prop} {F : Fz} {a : Option Addr} {n c m : Nat} {l : List α} (hk : 0 < k) (h : Sl k R F (.slice a n c) l) (hm : m ≤ n) : Sl k R F (.slice (if c = m then a else a.map (·.add (m * k))) (n - m) (c - m)) (l.drop m) := by
  have hn := Sl.len h
  obtain ⟨el, h1, h2, h3⟩ := h
  obtain ⟨a0, c0, e1, q1, q2, q3, q4⟩ := h1
  injection e1 with e1 e2 e3
  subst e1; subst e3
  have hll := h2.len
  by_cases hmn : m = l.length
  · have e : l.drop m = [] := List.drop_of_length_le (by omega)
    have e0 : n - m = 0 := by omega
    rw [e, e0]
    refine ⟨[], ⟨_, c - m, rfl, by simp, by omega, fun e => ?_, .inl rfl⟩, trivial, by simp⟩
    cases a with
    | none => have := q3 rfl; exact ⟨rfl, by omega⟩
    | some ad => split at e <;> cases e
  · have hpos : el.flatten ≠ [] := by
      intro e
      have := congrArg List.length e
      rw [flatten_len h3, hll] at this
      have := Nat.mul_pos (show 0 < l.length by omega) hk
      simp at *
      omega
    obtain ⟨b, o, e, hc⟩ := q4.resolve_left hpos
    subst e
    rw [if_neg (by omega)]
    have hs : Sl k R F (.slice (some ⟨b, o, none⟩) n c) l := ⟨el, ⟨_, _, by rw [hn], q1, q2, q3, .inr ⟨b, o, rfl, hc⟩⟩, h2, h3⟩
    have := Sl.dropN (m := m) hs hm rfl rfl
    show Sl k R F (.slice (some (Addr.add ⟨b, o, none⟩ (m * k))) _ _) _
    rw [Addr.add_mid]
    exact this
theorem Bs.rest {F : Fz} {a : Option Addr} {m c n : Nat} {l : By} (h : Bs F (.slice a m c) l) (hn : n ≤ m) : Bs F (.slice (if c = n then a else a.map (·.add (n * 1))) (m - n) (c - n)) (l.drop n) := bs_of_sl (Sl.dropW (by decide) h.sl hn)
theorem wd_eq {b : By} {c : UInt8} (h : b[0]? = some c) (hl : ¬ 4000 < b.length) : wdE b = if c.toNat < 1 ∨ 8 < c.toNat then 5 else match decW (hasN c.toNat) (b.drop 1) with
    | none => 14
    | some p => if 0 < p.2.length then 4 else wireN c.toNat p.1.name.length p.1.key.length p.1.last.length p.1.value.length := by
  cases b with
  | nil => cases h
  | cons y t =>
    simp only [List.getElem?_cons_zero, Option.some.injEq] at h
    subst h
    unfold wdE
    rw [if_neg hl]
    rfl
theorem wd_rq {b : By} {c : UInt8} {p : Rq × By} (h : b[0]? = some c) (he : wdE b = 0) (hd : decW (hasN c.toNat) (b.drop 1) = some p) : wdR b = (c.toNat, p.1) := by
  cases b with
  | nil => cases h
  | cons y t =>
    simp only [List.getElem?_cons_zero, Option.some.injEq] at h
    subst h
    simp only [List.drop_succ_cons, List.drop_zero] at hd
    unfold wdR
    rw [if_pos he]
    simp only [hd]
def DecQ (b : By) (F : Fz) (u : Value) : Prop := ∃ x, u = .tuple #[x, .int .i64 (wdE b)] ∧ ReqV F x ((wdR b).1 : Nat) (wdR b).2.name (wdR b).2.key (wdR b).2.last (wdR b).2.value
theorem decQ_bad {b : By} {F : Fz} {e : Int} (he : wdE b = e) (h0 : e ≠ 0) : DecQ b F (.tuple #[.agg #[.int .i64 0, .slice none 0 0, .slice none 0 0, .slice none 0 0, .slice none 0 0], .int .i64 e]) := by
  unfold DecQ
  rw [wdR_bad (by rw [he]; exact h0), he]
  exact ⟨_, rfl, _, _, _, _, rfl, Bs.nil _, Bs.nil _, Bs.nil _, Bs.nil _⟩
set_option maxHeartbeats 8000000 in
theorem wireDecode_spec (F : Fz) (w : World) (v : Value) (b : By) (hs : Sat w F) (hh : Has w) (hb : Bs F v b) :
    Calls Tryd.prog 12 #[v] w (Gives w F (DecQ b)) := by
 obtain ⟨x, y, rfl, hc1', hc2'⟩ := hb.shape
 unfold maxLen at hc2'
 have S := St.start hs
 go_enter Tryd.func12, Tryd.ntmps12
 refine wp_seq_k (fun K1 hK1 => region_wl ?_)
 refine stNew S (v := fun n => .pointer (some ⟨n, 0, none⟩)) rfl (ex_alloc (zero_25 _)) (fun n2 w3 S4 => ?_)
 simp only [pS, pN, pA, pC, pZ]
 have S4 : St w F w3 F [⟨n2, [(.int .i64 0), (.slice none 0 0), (.slice none 0 0), (.slice none 0 0), (.slice none 0 0)], 25⟩] [] := S4
 refine do_ rfl (.int .i64 0) (ex_assign _) ?_
 simp only [pS, pN, pA, pC, pZ]
 refine wl_nil (hK1 _ _ ?_)
 refine wp_seq_k (fun K5 hK5 => ?_)
 refine wp_seq_k (fun K6 hK6 => region_wl ?_)
 refine do_ rfl (.slice x b.length y) (ex_move _) ?_
 simp only [pS, pN, pA, pC, pZ]
 refine do_ rfl (.int .i64 ((b.length : Nat) : Int)) (ex_len Tryd.underlying22 rfl) ?_
 simp only [pS, pN, pA, pC, pZ]
 by_cases hc12 : 4000 < b.length
 ·refine do_ rfl (.bool true) (ex_gtr (m := ((b.length : Nat) : Int)) (n := (4000 : Int)) (b := true) rfl rfl (decide_eq_true (by omega))) ?_
  simp only [pS, pN, pA, pC, pZ]
  refine wl_nil (hK6 _ _ ?_)
  refine wp_cond_true rfl ?_
  refine wp_seq_k (fun K7 hK7 => ?_)
  have hE : wdE b = 1 := by unfold wdE; rw [if_pos (by omega)]
  refine region_wl ?_
  refine do_ rfl (.agg #[(.int .i64 0), (.slice none 0 0), (.slice none 0 0), (.slice none 0 0), (.slice none 0 0)]) (ex_build (ps := #[]) (bmap0) (by kernel_rfl)) ?_
  simp only [pS, pN, pA, pC, pZ]
  refine stStore (i := 0) (v := (.agg #[(.int .i64 0), (.slice none 0 0), (.slice none 0 0), (.slice none 0 0), (.slice none 0 0)])) S4 rfl rfl rfl rfl (size_25) (allc5 rfl rfl rfl rfl rfl) (Nat.le_of_ble_eq_true rfl) (fun w8 S9 => ?_)
  simp only [pS, pN, pA, pC, pZ]
  have S9 : St w F w8 F [⟨n2, [(.int .i64 0), (.slice none 0 0), (.slice none 0 0), (.slice none 0 0), (.slice none 0 0)], 25⟩] [] := S9
  refine do_ rfl (.int .i64 1) (ex_assign _) ?_
  simp only [pS, pN, pA, pC, pZ]
  refine wl_nil (hK7 _ _ ?_)
  refine wp_ret ?_
  (try simp only [Exit.then, Exit.inBlock, ↓reduceIte, Nat.reduceEqDiff])
  refine bodyPost_ret (v := (.tuple #[(.agg #[(.int .i64 0), (.slice none 0 0), (.slice none 0 0), (.slice none 0 0), (.slice none 0 0)]), (.int .i64 1)])) ?_ rfl ?_
  ·exact res_ct rfl ⟨_, rfl, loadN (cs := [(.int .i64 0), (.slice none 0 0), (.slice none 0 0), (.slice none 0 0), (.slice none 0 0)]) Tryd.underlying25 rfl (size_25) (St.range S9 (i := 0) rfl 0 [(.int .i64 0), (.slice none 0 0), (.slice none 0 0), (.slice none 0 0), (.slice none 0 0)] (sub_range 0 rfl))⟩ rfl
  ·exact ⟨_, _, rfl, S9.gr, decQ_bad hE (by decide)⟩
 ·refine do_ rfl (.bool false) (ex_gtr (m := ((b.length : Nat) : Int)) (n := (4000 : Int)) (b := false) rfl rfl (decide_eq_false (by omega))) ?_
  simp only [pS, pN, pA, pC, pZ]
  refine wl_nil (hK6 _ _ ?_)
  refine wp_cond_false rfl ?_
  refine wp_skip ?_
  refine hK5 _ _ ?_
  refine wp_seq_k (fun K10 hK10 => ?_)
  refine wp_seq_k (fun K11 hK11 => ?_)
  have hl4 : ¬ 4000 < b.length := by omega
  refine region_wl ?_
  refine do_ rfl (.slice x b.length y) (ex_move _) ?_
  simp only [pS, pN, pA, pC, pZ]
  refine do_ rfl (.int .i64 ((b.length : Nat) : Int)) (ex_len Tryd.underlying22 rfl) ?_
  simp only [pS, pN, pA, pC, pZ]
  by_cases hc16 : b.length = 0
  ·refine do_ rfl (.bool true) (ex_eql (m := ((b.length : Nat) : Int)) (n := (0 : Int)) (b := true) rfl rfl (beq_iff_eq.2 (by omega))) ?_
   simp only [pS, pN, pA, pC, pZ]
   refine wl_nil (hK11 _ _ ?_)
   refine wp_cond_true rfl ?_
   refine wp_seq_k (fun K12 hK12 => ?_)
   have hE : wdE b = 14 := by rw [List.eq_nil_of_length_eq_zero (show b.length = 0 by omega)]; rfl
   refine region_wl ?_
   refine do_ rfl (.agg #[(.int .i64 0), (.slice none 0 0), (.slice none 0 0), (.slice none 0 0), (.slice none 0 0)]) (ex_build (ps := #[]) (bmap0) (by kernel_rfl)) ?_
   simp only [pS, pN, pA, pC, pZ]
   refine stStore (i := 0) (v := (.agg #[(.int .i64 0), (.slice none 0 0), (.slice none 0 0), (.slice none 0 0), (.slice none 0 0)])) S4 rfl rfl rfl rfl (size_25) (allc5 rfl rfl rfl rfl rfl) (Nat.le_of_ble_eq_true rfl) (fun w13 S14 => ?_)
   simp only [pS, pN, pA, pC, pZ]
   have S14 : St w F w13 F [⟨n2, [(.int .i64 0), (.slice none 0 0), (.slice none 0 0), (.slice none 0 0), (.slice none 0 0)], 25⟩] [] := S14
   refine do_ rfl (.int .i64 14) (ex_assign _) ?_
   simp only [pS, pN, pA, pC, pZ]
   refine wl_nil (hK12 _ _ ?_)
   refine wp_ret ?_
   (try simp only [Exit.then, Exit.inBlock, ↓reduceIte, Nat.reduceEqDiff])
   refine bodyPost_ret (v := (.tuple #[(.agg #[(.int .i64 0), (.slice none 0 0), (.slice none 0 0), (.slice none 0 0), (.slice none 0 0)]), (.int .i64 14)])) ?_ rfl ?_
   ·exact res_ct rfl ⟨_, rfl, loadN (cs := [(.int .i64 0), (.slice none 0 0), (.slice none 0 0), (.slice none 0 0), (.slice none 0 0)]) Tryd.underlying25 rfl (size_25) (St.range S14 (i := 0) rfl 0 [(.int .i64 0), (.slice none 0 0), (.slice none 0 0), (.slice none 0 0), (.slice none 0 0)] (sub_range 0 rfl))⟩ rfl
   ·exact ⟨_, _, rfl, S14.gr, decQ_bad hE (by decide)⟩
  ·refine do_ rfl (.bool false) (ex_eql (m := ((b.length : Nat) : Int)) (n := (0 : Int)) (b := false) rfl rfl (beq_eq_false_iff_ne.2 (by omega))) ?_
   simp only [pS, pN, pA, pC, pZ]
   refine wl_nil (hK11 _ _ ?_)
   refine wp_cond_false rfl ?_
   refine wp_skip ?_
   refine hK10 _ _ ?_
   refine wp_seq_k (fun K15 hK15 => ?_)
   obtain ⟨c0, hc0⟩ : ∃ c, b[0]? = some c := ⟨b[0], List.getElem?_eq_getElem (by omega)⟩
   have hb8 := UInt8.toNat_lt c0
   obtain ⟨b16, o17, ha18, c19⟩ := Bs.get hb hc0
   refine region_wl ?_
   refine do_ rfl (.slice x b.length y) (ex_move _) ?_
   simp only [pS, pN, pA, pC, pZ]
   refine do_ rfl (.pointer (some ⟨b16, o17 + 0 * 1, none⟩)) (ex_at (i := 0) (sz := 1) Tryd.underlying22 (sizeof_5 _) rfl ha18 rfl (by omega) rfl) ?_
   simp only [pS, pN, pA, pC, pZ]
   refine do_ rfl (bv c0) (ex_load rfl (load1 (nagg_5 _) (St.fz S4 c19))) ?_
   simp only [pS, pN, pA, pC, pZ]
   refine do_ rfl (.int .i64 ((c0.toNat : Nat) : Int)) (ex_convert (v := (bv c0)) rfl (conv_int c0 _)) ?_
   simp only [pS, pN, pA, pC, pZ]
   refine do_ rfl (.agg #[(.int .i64 ((c0.toNat : Nat) : Int)), (.slice none 0 0), (.slice none 0 0), (.slice none 0 0), (.slice none 0 0)]) (ex_build (ps := #[(0, (.int .i64 ((c0.toNat : Nat) : Int)))]) (bmap1 rfl) (by kernel_rfl)) ?_
   simp only [pS, pN, pA, pC, pZ]
   refine stNew S4 (v := fun n => .pointer (some ⟨n, 0, none⟩)) rfl (ex_alloc (zero_25 _)) (fun n20 w21 S22 => ?_)
   simp only [pS, pN, pA, pC, pZ]
   have S22 : St w F w21 F [⟨n20, [(.int .i64 0), (.slice none 0 0), (.slice none 0 0), (.slice none 0 0), (.slice none 0 0)], 25⟩, ⟨n2, [(.int .i64 0), (.slice none 0 0), (.slice none 0 0), (.slice none 0 0), (.slice none 0 0)], 25⟩] [] := S22
   refine stStore (i := 0) (v := (.agg #[(.int .i64 ((c0.toNat : Nat) : Int)), (.slice none 0 0), (.slice none 0 0), (.slice none 0 0), (.slice none 0 0)])) S22 rfl rfl rfl rfl (size_25) (allc5 rfl rfl rfl rfl rfl) (Nat.le_of_ble_eq_true rfl) (fun w23 S24 => ?_)
   simp only [pS, pN, pA, pC, pZ]
   have S24 : St w F w23 F [⟨n20, [(.int .i64 ((c0.toNat : Nat) : Int)), (.slice none 0 0), (.slice none 0 0), (.slice none 0 0), (.slice none 0 0)], 25⟩, ⟨n2, [(.int .i64 0), (.slice none 0 0), (.slice none 0 0), (.slice none 0 0), (.slice none 0 0)], 25⟩] [] := S24
   refine wl_nil (hK15 _ _ ?_)
   refine wp_seq_k (fun K25 hK25 => ?_)
   refine wp_seq_k (fun K26 hK26 => region_wl ?_)
   refine do_ rfl (.pointer (some ⟨n20, 0, none⟩)) (ex_field (q := ⟨n20, 0, none⟩) rfl (fa_25_0 _ _)) ?_
   simp only [pS, pN, pA, pC, pZ]
   refine do_ rfl (.int .i64 ((c0.toNat : Nat) : Int)) (ex_load rfl (load1 (nagg_3 _) (St.cell S24 (i := 0) rfl rfl))) ?_
   simp only [pS, pN, pA, pC, pZ]
   by_cases hc25 : c0.toNat < 1
   ·refine do_ rfl (.bool true) (ex_lss (m := ((c0.toNat : Nat) : Int)) (n := (1 : Int)) (b := true) rfl rfl (decide_eq_true (by omega))) ?_
    simp only [pS, pN, pA, pC, pZ]
    refine do_ rfl (.bool true) (ex_move _) ?_
    simp only [pS, pN, pA, pC, pZ]
    refine doN (wanted_no rfl rfl rfl (c := true) rfl (by decide)) ?_
    simp only [pS, pN, pA, pC, pZ]
    refine doN (wanted_no rfl rfl rfl (c := true) rfl (by decide)) ?_
    simp only [pS, pN, pA, pC, pZ]
    refine doN (wanted_no rfl rfl rfl (c := true) rfl (by decide)) ?_
    simp only [pS, pN, pA, pC, pZ]
    refine do_ rfl (.bool true) (ex_pick (b := true) rfl) ?_
    simp only [pS, pN, pA, pC, pZ]
    refine wl_nil (hK26 _ _ ?_)
    refine wp_cond_true rfl ?_
    refine wp_seq_k (fun K27 hK27 => ?_)
    have hE : wdE b = 5 := by rw [wd_eq hc0 hl4, if_pos (by omega)]
    refine region_wl ?_
    refine do_ rfl (.agg #[(.int .i64 0), (.slice none 0 0), (.slice none 0 0), (.slice none 0 0), (.slice none 0 0)]) (ex_build (ps := #[]) (bmap0) (by kernel_rfl)) ?_
    simp only [pS, pN, pA, pC, pZ]
    refine stStore (i := 1) (v := (.agg #[(.int .i64 0), (.slice none 0 0), (.slice none 0 0), (.slice none 0 0), (.slice none 0 0)])) S24 rfl rfl rfl rfl (size_25) (allc5 rfl rfl rfl rfl rfl) (Nat.le_of_ble_eq_true rfl) (fun w28 S29 => ?_)
    simp only [pS, pN, pA, pC, pZ]
    have S29 : St w F w28 F [⟨n20, [(.int .i64 ((c0.toNat : Nat) : Int)), (.slice none 0 0), (.slice none 0 0), (.slice none 0 0), (.slice none 0 0)], 25⟩, ⟨n2, [(.int .i64 0), (.slice none 0 0), (.slice none 0 0), (.slice none 0 0), (.slice none 0 0)], 25⟩] [] := S29
    refine do_ rfl (.int .i64 5) (ex_assign _) ?_
    simp only [pS, pN, pA, pC, pZ]
    refine wl_nil (hK27 _ _ ?_)
    refine wp_ret ?_
    (try simp only [Exit.then, Exit.inBlock, ↓reduceIte, Nat.reduceEqDiff])
    refine bodyPost_ret (v := (.tuple #[(.agg #[(.int .i64 0), (.slice none 0 0), (.slice none 0 0), (.slice none 0 0), (.slice none 0 0)]), (.int .i64 5)])) ?_ rfl ?_
    ·exact res_ct rfl ⟨_, rfl, loadN (cs := [(.int .i64 0), (.slice none 0 0), (.slice none 0 0), (.slice none 0 0), (.slice none 0 0)]) Tryd.underlying25 rfl (size_25) (St.range S29 (i := 1) rfl 0 [(.int .i64 0), (.slice none 0 0), (.slice none 0 0), (.slice none 0 0), (.slice none 0 0)] (sub_range 0 rfl))⟩ rfl
    ·exact ⟨_, _, rfl, S29.gr, decQ_bad hE (by decide)⟩
   ·refine do_ rfl (.bool false) (ex_lss (m := ((c0.toNat : Nat) : Int)) (n := (1 : Int)) (b := false) rfl rfl (decide_eq_false (by omega))) ?_
    simp only [pS, pN, pA, pC, pZ]
    refine do_ rfl (.bool false) (ex_move _) ?_
    simp only [pS, pN, pA, pC, pZ]
    refine do_ rfl (.pointer (some ⟨n20, 0, none⟩)) (ex_field (q := ⟨n20, 0, none⟩) rfl (fa_25_0 _ _)) ?_
    simp only [pS, pN, pA, pC, pZ]
    refine do_ rfl (.int .i64 ((c0.toNat : Nat) : Int)) (ex_load rfl (load1 (nagg_3 _) (St.cell S24 (i := 0) rfl rfl))) ?_
    simp only [pS, pN, pA, pC, pZ]
    by_cases hc29 : 8 < c0.toNat
    ·refine do_ rfl (.bool true) (ex_gtr (m := ((c0.toNat : Nat) : Int)) (n := (8 : Int)) (b := true) rfl rfl (decide_eq_true (by omega))) ?_
     simp only [pS, pN, pA, pC, pZ]
     refine do_ rfl (.bool true) (ex_pick (b := false) rfl) ?_
     simp only [pS, pN, pA, pC, pZ]
     refine wl_nil (hK26 _ _ ?_)
     refine wp_cond_true rfl ?_
     refine wp_seq_k (fun K30 hK30 => ?_)
     have hE : wdE b = 5 := by rw [wd_eq hc0 hl4, if_pos (by omega)]
     refine region_wl ?_
     refine do_ rfl (.agg #[(.int .i64 0), (.slice none 0 0), (.slice none 0 0), (.slice none 0 0), (.slice none 0 0)]) (ex_build (ps := #[]) (bmap0) (by kernel_rfl)) ?_
     simp only [pS, pN, pA, pC, pZ]
     refine stStore (i := 1) (v := (.agg #[(.int .i64 0), (.slice none 0 0), (.slice none 0 0), (.slice none 0 0), (.slice none 0 0)])) S24 rfl rfl rfl rfl (size_25) (allc5 rfl rfl rfl rfl rfl) (Nat.le_of_ble_eq_true rfl) (fun w31 S32 => ?_)
     simp only [pS, pN, pA, pC, pZ]
     have S32 : St w F w31 F [⟨n20, [(.int .i64 ((c0.toNat : Nat) : Int)), (.slice none 0 0), (.slice none 0 0), (.slice none 0 0), (.slice none 0 0)], 25⟩, ⟨n2, [(.int .i64 0), (.slice none 0 0), (.slice none 0 0), (.slice none 0 0), (.slice none 0 0)], 25⟩] [] := S32
     refine do_ rfl (.int .i64 5) (ex_assign _) ?_
     simp only [pS, pN, pA, pC, pZ]
     refine wl_nil (hK30 _ _ ?_)
     refine wp_ret ?_
     (try simp only [Exit.then, Exit.inBlock, ↓reduceIte, Nat.reduceEqDiff])
     refine bodyPost_ret (v := (.tuple #[(.agg #[(.int .i64 0), (.slice none 0 0), (.slice none 0 0), (.slice none 0 0), (.slice none 0 0)]), (.int .i64 5)])) ?_ rfl ?_
     ·exact res_ct rfl ⟨_, rfl, loadN (cs := [(.int .i64 0), (.slice none 0 0), (.slice none 0 0), (.slice none 0 0), (.slice none 0 0)]) Tryd.underlying25 rfl (size_25) (St.range S32 (i := 1) rfl 0 [(.int .i64 0), (.slice none 0 0), (.slice none 0 0), (.slice none 0 0), (.slice none 0 0)] (sub_range 0 rfl))⟩ rfl
     ·exact ⟨_, _, rfl, S32.gr, decQ_bad hE (by decide)⟩
    ·refine do_ rfl (.bool false) (ex_gtr (m := ((c0.toNat : Nat) : Int)) (n := (8 : Int)) (b := false) rfl rfl (decide_eq_false (by omega))) ?_
     simp only [pS, pN, pA, pC, pZ]
     refine do_ rfl (.bool false) (ex_pick (b := false) rfl) ?_
     simp only [pS, pN, pA, pC, pZ]
     refine wl_nil (hK26 _ _ ?_)
     refine wp_cond_false rfl ?_
     refine wp_skip ?_
     refine hK25 _ _ ?_
     refine wp_seq_k (fun K33 hK33 => ?_)
     have hk : 1 ≤ c0.toNat ∧ c0.toNat ≤ 8 := by omega
     have hwd := wd_eq hc0 hl4
     rw [if_neg (by omega)] at hwd
     refine region_wl ?_
     refine do_ rfl (.slice x b.length y) (ex_move _) ?_
     simp only [pS, pN, pA, pC, pZ]
     have r34 : Bs _ (.slice (if y = 1 then x else x.map (·.add (1 * 1))) (b.length - 1) (y - 1)) (b.drop 1) := Bs.rest hb (by omega)
     refine do_ rfl (.slice (if y = 1 then x else x.map (·.add (1 * 1))) (b.length - 1) (y - 1)) (ex_slice (l := 1) (h := b.length) (sz := 1) Tryd.underlying22 rfl (sizeof_5 _) (.inr ⟨_, rfl, rfl⟩) (.inl ⟨rfl, rfl⟩) (by omega) (by omega) (rfl)) ?_
     simp only [pS, pN, pA, pC, pZ]
     refine do_ rfl (.slice (if y = 1 then x else x.map (·.add (1 * 1))) (b.length - 1) (y - 1)) (ex_assign _) ?_
     simp only [pS, pN, pA, pC, pZ]
     refine wl_nil (hK33 _ _ ?_)
     refine wp_seq_k (fun K35 hK35 => ?_)
     refine wp_seq_k (fun K36 hK36 => region_wl ?_)
     refine do_ rfl (.pointer (some ⟨n20, 1, none⟩)) (ex_field (q := ⟨n20, 1, none⟩) rfl (fa_25_1 _ _)) ?_
     simp only [pS, pN, pA, pC, pZ]
     refine do_ rfl (.pointer (some ⟨n20, 2, none⟩)) (ex_field (q := ⟨n20, 2, none⟩) rfl (fa_25_2 _ _)) ?_
     simp only [pS, pN, pA, pC, pZ]
     refine do_ rfl (.pointer (some ⟨n20, 3, none⟩)) (ex_field (q := ⟨n20, 3, none⟩) rfl (fa_25_3 _ _)) ?_
     simp only [pS, pN, pA, pC, pZ]
     refine do_ rfl (.pointer (some ⟨n20, 4, none⟩)) (ex_field (q := ⟨n20, 4, none⟩) rfl (fa_25_4 _ _)) ?_
     simp only [pS, pN, pA, pC, pZ]
     refine do_ rfl (.agg #[(.pointer (some ⟨n20, 1, none⟩)), (.pointer (some ⟨n20, 2, none⟩)), (.pointer (some ⟨n20, 3, none⟩)), (.pointer (some ⟨n20, 4, none⟩))]) (ex_build (ps := #[(0, (.pointer (some ⟨n20, 1, none⟩))), (1, (.pointer (some ⟨n20, 2, none⟩))), (2, (.pointer (some ⟨n20, 3, none⟩))), (3, (.pointer (some ⟨n20, 4, none⟩)))]) (bmap4 rfl rfl rfl rfl) (by kernel_rfl)) ?_
     simp only [pS, pN, pA, pC, pZ]
     refine do_ rfl (.int .i64 0) (ex_move _) ?_
     simp only [pS, pN, pA, pC, pZ]
     refine wl_nil (hK36 _ _ ?_)
     refine wp_block ?_
     refine wp_loop_g (fun mm aa w39 => ∃ (i : Nat) (r : Rq) (a0 : Option Addr) (e0 : Nat) (a1 : Option Addr) (e1 : Nat) (a2 : Option Addr) (e2 : Nat) (a3 : Option Addr) (e3 : Nat) (ra : Option Addr) (rn : Nat) (rc : Nat) (rest : By) (F37 : Fz) (u38 : Nat → Value), mm = 4 - i ∧ u38 = slots aa ∧ aa = ⟨#[(.slice x b.length y), undef, (.pointer (some ⟨n2, 0, none⟩)), (u38 3), (.pointer (some ⟨n20, 0, none⟩)), (.slice ra rn rc), (u38 6), (u38 7), (u38 8), undef, (.slice x b.length y), (.int .i64 ((b.length : Nat) : Int)), (.bool false), undef, (.slice x b.length y), (.int .i64 ((b.length : Nat) : Int)), (.bool false), undef, (.slice x b.length y), (.pointer (some ⟨b16, o17 + 0 * 1, none⟩)), (bv c0), (.int .i64 ((c0.toNat : Nat) : Int)), (.agg #[(.int .i64 ((c0.toNat : Nat) : Int)), (.slice none 0 0), (.slice none 0 0), (.slice none 0 0), (.slice none 0 0)]), (.pointer (some ⟨n20, 0, none⟩)), (.int .i64 ((c0.toNat : Nat) : Int)), (.bool false), (.bool false), (.pointer (some ⟨n20, 0, none⟩)), (.int .i64 ((c0.toNat : Nat) : Int)), (.bool false), (.bool false), undef, (.slice x b.length y), (.slice (if y = 1 then x else x.map (·.add (1 * 1))) (b.length - 1) (y - 1)), (.pointer (some ⟨n20, 1, none⟩)), (.pointer (some ⟨n20, 2, none⟩)), (.pointer (some ⟨n20, 3, none⟩)), (.pointer (some ⟨n20, 4, none⟩)), (.agg #[(.pointer (some ⟨n20, 1, none⟩)), (.pointer (some ⟨n20, 2, none⟩)), (.pointer (some ⟨n20, 3, none⟩)), (.pointer (some ⟨n20, 4, none⟩))]), (.int .i64 ((i : Nat) : Int)), (u38 40), (u38 41), (u38 42), (u38 43), (u38 44), (u38 45), (u38 46), (u38 47), (u38 48), (u38 49), (u38 50), (u38 51), (u38 52), (u38 53), (u38 54), (u38 55), (u38 56), (u38 57), (u38 58), (u38 59), (u38 60), (u38 61), (u38 62), (u38 63), (u38 64), (u38 65), (u38 66), (u38 67), (u38 68), (u38 69), (u38 70), (u38 71), (u38 72), (u38 73), (u38 74), (u38 75), (u38 76), (u38 77), (u38 78), (u38 79), undef, undef, undef, undef, undef, undef, undef, undef, undef, undef, undef], []⟩ ∧ St w F w39 F37 [⟨n20, [(.int .i64 ((c0.toNat : Nat) : Int)), (.slice a0 r.name.length e0), (.slice a1 r.key.length e1), (.slice a2 r.last.length e2), (.slice a3 r.value.length e3)], 25⟩, ⟨n2, [(.int .i64 0), (.slice none 0 0), (.slice none 0 0), (.slice none 0 0), (.slice none 0 0)], 25⟩] [] ∧ Le F F37 ∧ (i ≤ 4) ∧ (Bs F37 (.slice a0 r.name.length e0) r.name) ∧ (Bs F37 (.slice a1 r.key.length e1) r.key) ∧ (Bs F37 (.slice a2 r.last.length e2) r.last) ∧ (Bs F37 (.slice a3 r.value.length e3) r.value) ∧ (Bs F37 (.slice ra rn rc) rest) ∧ (rest.length ≤ 4000) ∧ (decFrom (hasN c0.toNat) (4 - i) i r rest = decW (hasN c0.toNat) (b.drop 1))) _ ⟨0, ⟨[], [], [], []⟩, none, 0, none, 0, none, 0, none, 0, (if y = 1 then x else x.map (·.add (1 * 1))), (b.length - 1), (y - 1), (b.drop 1), F, _, rfl, rfl, rfl, S24, Le.refl _, (by omega), (Bs.nil _), (Bs.nil _), (Bs.nil _), (Bs.nil _), r34, (by simp only [List.length_drop]; omega), (decFrom_all _ _)⟩ ?_
     rintro m40 a41 w42 ⟨i, r, a0, e0, a1, e1, a2, e2, a3, e3, ra, rn, rc, rest, F37, u38, rfl, -, rfl, S43, le44, hi4, hf0, hf1, hf2, hf3, hrest, hrl, hinv⟩ K45 hK45
     refine wp_seq_k (fun K46 hK46 => region_wl ?_)
     by_cases hc40 : i < 4
     ·refine do_ rfl (.bool true) (ex_lss (m := ((i : Nat) : Int)) (n := (4 : Int)) (b := true) rfl rfl (decide_eq_true (by omega))) ?_
      simp only [pS, pN, pA, pC, pZ]
      refine wl_nil (hK46 _ _ ?_)
      refine wp_seq_k (fun K47 hK47 => ?_)
      refine wp_cond_true rfl ?_
      refine wp_skip ?_
      refine hK47 _ _ ?_
      refine wp_seq_k (fun K48 hK48 => ?_)
      refine wp_block ?_
      refine wp_seq_k (fun K49 hK49 => ?_)
      rcases (by omega : i = 0 ∨ i = 1 ∨ i = 2 ∨ i = 3) with h4 | h4 | h4 | h4
      ·by_cases he : (hasN c0.toNat).testBit i = true
       ·have hx := bit_yes he
        have hrn := hrest.len
        have hcap : rest.length ≤ rc := by obtain ⟨_, _, e, q, _⟩ := hrest.shape; injection e with _ _ e; rw [e]; exact q
        refine region_wl ?_
        refine do_ rfl (.int .i64 ((i : Nat) : Int)) (ex_move _) ?_
        simp only [pS, pN, pA, pC, pZ]
        refine do_ rfl (.pointer (some ⟨n20, 1, none⟩)) (ex_indexV (i := i) Tryd.underlying59 (sizeof_58 _) rfl rfl (by omega) (nagg_58 _) (by rw [h4]; rfl)) ?_
        simp only [pS, pN, pA, pC, pZ]
        refine do_ rfl (.int .i64 ((i : Nat) : Int)) (ex_assign _) ?_
        simp only [pS, pN, pA, pC, pZ]
        refine do_ rfl (.pointer (some ⟨n20, 1, none⟩)) (ex_assign _) ?_
        simp only [pS, pN, pA, pC, pZ]
        refine wl_nil (hK49 _ _ ?_)
        refine wp_seq_k (fun K50 hK50 => ?_)
        refine wp_seq_k (fun K51 hK51 => region_wl ?_)
        refine do_ rfl (.pointer (some ⟨n20, 0, none⟩)) (ex_field (q := ⟨n20, 0, none⟩) rfl (fa_25_0 _ _)) ?_
        simp only [pS, pN, pA, pC, pZ]
        refine do_ rfl (.int .i64 ((c0.toNat : Nat) : Int)) (ex_load rfl (load1 (nagg_3 _) (St.cell S43 (i := 0) rfl rfl))) ?_
        simp only [pS, pN, pA, pC, pZ]
        refine do_ rfl (.pointer (some ⟨0, c0.toNat, none⟩)) (ex_atArr (i := c0.toNat) Tryd.underlying57 (sizeof_3 _) rfl rfl (by omega)) ?_
        simp only [pS, pN, pA, pC, pZ]
        refine do_ rfl (.int .i64 (((hasN c0.toNat) : Nat) : Int)) (ex_load rfl (load1 (nagg_3 _) (has_at (hh.below S43.gr.below) hk))) ?_
        simp only [pS, pN, pA, pC, pZ]
        refine do_ rfl (.int .i64 ((i : Nat) : Int)) (ex_move _) ?_
        simp only [pS, pN, pA, pC, pZ]
        refine do_ rfl (.int .i64 ((((hasN c0.toNat) / 2 ^ i) : Nat) : Int)) (ex_shrI (m := (hasN c0.toNat)) (n := i) rfl rfl (by omega)) ?_
        simp only [pS, pN, pA, pC, pZ]
        refine do_ rfl (.int .i64 (((((hasN c0.toNat) / 2 ^ i) % 2) : Nat) : Int)) (ex_andOne (m := ((hasN c0.toNat) / 2 ^ i)) rfl rfl) ?_
        simp only [pS, pN, pA, pC, pZ]
        refine do_ rfl (.bool false) (ex_eql (m := (((((hasN c0.toNat) / 2 ^ i) % 2) : Nat) : Int)) (n := (0 : Int)) (b := false) rfl rfl (beq_eq_false_iff_ne.2 (by rw [hx]; decide))) ?_
        simp only [pS, pN, pA, pC, pZ]
        refine wl_nil (hK51 _ _ ?_)
        refine wp_cond_false rfl ?_
        refine wp_skip ?_
        refine hK50 _ _ ?_
        refine wp_seq_k (fun K52 hK52 => ?_)
        refine wp_seq_k (fun K53 hK53 => ?_)
        by_cases hz : rest.length = 0
        ·refine region_wl ?_
         refine do_ rfl (.slice ra rn rc) (ex_move _) ?_
         simp only [pS, pN, pA, pC, pZ]
         refine do_ rfl (.int .i64 ((rn : Nat) : Int)) (ex_len Tryd.underlying22 rfl) ?_
         simp only [pS, pN, pA, pC, pZ]
         refine do_ rfl (.bool true) (ex_eql (m := ((rn : Nat) : Int)) (n := (0 : Int)) (b := true) rfl rfl (beq_iff_eq.2 (by omega))) ?_
         simp only [pS, pN, pA, pC, pZ]
         refine do_ rfl (.bool true) (ex_move _) ?_
         simp only [pS, pN, pA, pC, pZ]
         refine doN (wanted_no rfl rfl rfl (c := true) rfl (by decide)) ?_
         simp only [pS, pN, pA, pC, pZ]
         refine doN (wanted_no rfl rfl rfl (c := true) rfl (by decide)) ?_
         simp only [pS, pN, pA, pC, pZ]
         refine doN (wanted_no rfl rfl rfl (c := true) rfl (by decide)) ?_
         simp only [pS, pN, pA, pC, pZ]
         refine doN (wanted_no rfl rfl rfl (c := true) rfl (by decide)) ?_
         simp only [pS, pN, pA, pC, pZ]
         refine doN (wanted_no rfl rfl rfl (c := true) rfl (by decide)) ?_
         simp only [pS, pN, pA, pC, pZ]
         refine doN (wanted_no rfl rfl rfl (c := true) rfl (by decide)) ?_
         simp only [pS, pN, pA, pC, pZ]
         refine doN (wanted_no rfl rfl rfl (c := true) rfl (by decide)) ?_
         simp only [pS, pN, pA, pC, pZ]
         refine doN (wanted_no rfl rfl rfl (c := true) rfl (by decide)) ?_
         simp only [pS, pN, pA, pC, pZ]
         refine do_ rfl (.bool true) (ex_pick (b := true) rfl) ?_
         simp only [pS, pN, pA, pC, pZ]
         refine wl_nil (hK53 _ _ ?_)
         refine wp_cond_true rfl ?_
         refine wp_seq_k (fun K54 hK54 => ?_)
         have hN : decW (hasN c0.toNat) (b.drop 1) = none := by rw [← hinv, show 4 - i = (3 - i) + 1 from by omega]; exact decFrom_none he (part_nil hz)
         have hE : wdE b = 14 := by rw [hwd, hN]
         refine region_wl ?_
         refine do_ rfl (.agg #[(.int .i64 0), (.slice none 0 0), (.slice none 0 0), (.slice none 0 0), (.slice none 0 0)]) (ex_build (ps := #[]) (bmap0) (by kernel_rfl)) ?_
         simp only [pS, pN, pA, pC, pZ]
         refine stStore (i := 1) (v := (.agg #[(.int .i64 0), (.slice none 0 0), (.slice none 0 0), (.slice none 0 0), (.slice none 0 0)])) S43 rfl rfl rfl rfl (size_25) (allc5 rfl rfl rfl rfl rfl) (Nat.le_of_ble_eq_true rfl) (fun w55 S56 => ?_)
         simp only [pS, pN, pA, pC, pZ]
         have S56 : St w F w55 F37 [⟨n20, [(.int .i64 ((c0.toNat : Nat) : Int)), (.slice a0 r.name.length e0), (.slice a1 r.key.length e1), (.slice a2 r.last.length e2), (.slice a3 r.value.length e3)], 25⟩, ⟨n2, [(.int .i64 0), (.slice none 0 0), (.slice none 0 0), (.slice none 0 0), (.slice none 0 0)], 25⟩] [] := S56
         refine do_ rfl (.int .i64 14) (ex_assign _) ?_
         simp only [pS, pN, pA, pC, pZ]
         refine wl_nil (hK54 _ _ ?_)
         refine wp_ret ?_
         (try simp only [Exit.then, Exit.inBlock, ↓reduceIte, Nat.reduceEqDiff])
         refine bodyPost_ret (v := (.tuple #[(.agg #[(.int .i64 0), (.slice none 0 0), (.slice none 0 0), (.slice none 0 0), (.slice none 0 0)]), (.int .i64 14)])) ?_ rfl ?_
         ·exact res_ct rfl ⟨_, rfl, loadN (cs := [(.int .i64 0), (.slice none 0 0), (.slice none 0 0), (.slice none 0 0), (.slice none 0 0)]) Tryd.underlying25 rfl (size_25) (St.range S56 (i := 1) rfl 0 [(.int .i64 0), (.slice none 0 0), (.slice none 0 0), (.slice none 0 0), (.slice none 0 0)] (sub_range 0 rfl))⟩ rfl
         ·exact ⟨_, _, rfl, S56.gr, decQ_bad hE (by decide)⟩
        ·obtain ⟨c1, hc1⟩ : ∃ c, rest[0]? = some c := ⟨rest[0], List.getElem?_eq_getElem (by omega)⟩
         have hb9 := UInt8.toNat_lt c1
         obtain ⟨b57, o58, ha59, c60⟩ := Bs.get hrest hc1
         refine region_wl ?_
         refine do_ rfl (.slice ra rn rc) (ex_move _) ?_
         simp only [pS, pN, pA, pC, pZ]
         refine do_ rfl (.int .i64 ((rn : Nat) : Int)) (ex_len Tryd.underlying22 rfl) ?_
         simp only [pS, pN, pA, pC, pZ]
         refine do_ rfl (.bool false) (ex_eql (m := ((rn : Nat) : Int)) (n := (0 : Int)) (b := false) rfl rfl (beq_eq_false_iff_ne.2 (by omega))) ?_
         simp only [pS, pN, pA, pC, pZ]
         refine do_ rfl (.bool false) (ex_move _) ?_
         simp only [pS, pN, pA, pC, pZ]
         refine do_ rfl (.slice ra rn rc) (ex_move _) ?_
         simp only [pS, pN, pA, pC, pZ]
         refine do_ rfl (.int .i64 ((rn : Nat) : Int)) (ex_len Tryd.underlying22 rfl) ?_
         simp only [pS, pN, pA, pC, pZ]
         refine do_ rfl (.slice ra rn rc) (ex_move _) ?_
         simp only [pS, pN, pA, pC, pZ]
         refine do_ rfl (.pointer (some ⟨b57, o58 + 0 * 1, none⟩)) (ex_at (i := 0) (sz := 1) Tryd.underlying22 (sizeof_5 _) rfl ha59 rfl (by omega) rfl) ?_
         simp only [pS, pN, pA, pC, pZ]
         refine do_ rfl (bv c1) (ex_load rfl (load1 (nagg_5 _) (St.fz S43 c60))) ?_
         simp only [pS, pN, pA, pC, pZ]
         refine do_ rfl (.int .i64 ((c1.toNat : Nat) : Int)) (ex_convert (v := (bv c1)) rfl (conv_int c1 _)) ?_
         simp only [pS, pN, pA, pC, pZ]
         refine do_ rfl (.int .i64 (((1 + c1.toNat) : Nat) : Int)) (ex_add (m := (1 : Int)) (n := ((c1.toNat : Nat) : Int)) (r := (((1 + c1.toNat) : Nat) : Int)) rfl rfl (by omega) (by omega) (by omega)) ?_
         simp only [pS, pN, pA, pC, pZ]
         by_cases hc62 : rn < (1 + c1.toNat)
         ·refine do_ rfl (.bool true) (ex_lss (m := ((rn : Nat) : Int)) (n := (((1 + c1.toNat) : Nat) : Int)) (b := true) rfl rfl (decide_eq_true (by omega))) ?_
          simp only [pS, pN, pA, pC, pZ]
          refine do_ rfl (.bool true) (ex_pick (b := false) rfl) ?_
          simp only [pS, pN, pA, pC, pZ]
          refine wl_nil (hK53 _ _ ?_)
          refine wp_cond_true rfl ?_
          refine wp_seq_k (fun K61 hK61 => ?_)
          have hN : decW (hasN c0.toNat) (b.drop 1) = none := by rw [← hinv, show 4 - i = (3 - i) + 1 from by omega]; exact decFrom_none he (part_short hc1 (by omega))
          have hE : wdE b = 14 := by rw [hwd, hN]
          refine region_wl ?_
          refine do_ rfl (.agg #[(.int .i64 0), (.slice none 0 0), (.slice none 0 0), (.slice none 0 0), (.slice none 0 0)]) (ex_build (ps := #[]) (bmap0) (by kernel_rfl)) ?_
          simp only [pS, pN, pA, pC, pZ]
          refine stStore (i := 1) (v := (.agg #[(.int .i64 0), (.slice none 0 0), (.slice none 0 0), (.slice none 0 0), (.slice none 0 0)])) S43 rfl rfl rfl rfl (size_25) (allc5 rfl rfl rfl rfl rfl) (Nat.le_of_ble_eq_true rfl) (fun w62 S63 => ?_)
          simp only [pS, pN, pA, pC, pZ]
          have S63 : St w F w62 F37 [⟨n20, [(.int .i64 ((c0.toNat : Nat) : Int)), (.slice a0 r.name.length e0), (.slice a1 r.key.length e1), (.slice a2 r.last.length e2), (.slice a3 r.value.length e3)], 25⟩, ⟨n2, [(.int .i64 0), (.slice none 0 0), (.slice none 0 0), (.slice none 0 0), (.slice none 0 0)], 25⟩] [] := S63
          refine do_ rfl (.int .i64 14) (ex_assign _) ?_
          simp only [pS, pN, pA, pC, pZ]
          refine wl_nil (hK61 _ _ ?_)
          refine wp_ret ?_
          (try simp only [Exit.then, Exit.inBlock, ↓reduceIte, Nat.reduceEqDiff])
          refine bodyPost_ret (v := (.tuple #[(.agg #[(.int .i64 0), (.slice none 0 0), (.slice none 0 0), (.slice none 0 0), (.slice none 0 0)]), (.int .i64 14)])) ?_ rfl ?_
          ·exact res_ct rfl ⟨_, rfl, loadN (cs := [(.int .i64 0), (.slice none 0 0), (.slice none 0 0), (.slice none 0 0), (.slice none 0 0)]) Tryd.underlying25 rfl (size_25) (St.range S63 (i := 1) rfl 0 [(.int .i64 0), (.slice none 0 0), (.slice none 0 0), (.slice none 0 0), (.slice none 0 0)] (sub_range 0 rfl))⟩ rfl
          ·exact ⟨_, _, rfl, S63.gr, decQ_bad hE (by decide)⟩
         ·refine do_ rfl (.bool false) (ex_lss (m := ((rn : Nat) : Int)) (n := (((1 + c1.toNat) : Nat) : Int)) (b := false) rfl rfl (decide_eq_false (by omega))) ?_
          simp only [pS, pN, pA, pC, pZ]
          refine do_ rfl (.bool false) (ex_pick (b := false) rfl) ?_
          simp only [pS, pN, pA, pC, pZ]
          refine wl_nil (hK53 _ _ ?_)
          refine wp_cond_false rfl ?_
          refine wp_skip ?_
          refine hK52 _ _ ?_
          refine wp_seq_k (fun K64 hK64 => region_wl ?_)
          refine do_ rfl (.slice ra rn rc) (ex_move _) ?_
          simp only [pS, pN, pA, pC, pZ]
          refine do_ rfl (.pointer (some ⟨b57, o58 + 0 * 1, none⟩)) (ex_at (i := 0) (sz := 1) Tryd.underlying22 (sizeof_5 _) rfl ha59 rfl (by omega) rfl) ?_
          simp only [pS, pN, pA, pC, pZ]
          refine do_ rfl (bv c1) (ex_load rfl (load1 (nagg_5 _) (St.fz S43 c60))) ?_
          simp only [pS, pN, pA, pC, pZ]
          refine do_ rfl (.int .i64 ((c1.toNat : Nat) : Int)) (ex_convert (v := (bv c1)) rfl (conv_int c1 _)) ?_
          simp only [pS, pN, pA, pC, pZ]
          refine do_ rfl (.int .i64 (((1 + c1.toNat) : Nat) : Int)) (ex_add (m := (1 : Int)) (n := ((c1.toNat : Nat) : Int)) (r := (((1 + c1.toNat) : Nat) : Int)) rfl rfl (by omega) (by omega) (by omega)) ?_
          simp only [pS, pN, pA, pC, pZ]
          refine do_ rfl (.int .i64 (((1 + c1.toNat) : Nat) : Int)) (ex_assign _) ?_
          simp only [pS, pN, pA, pC, pZ]
          refine wl_nil (hK64 _ _ ?_)
          refine wp_seq_k (fun K65 hK65 => region_wl ?_)
          refine do_ rfl (.pointer (some ⟨n20, 1, none⟩)) (ex_move _) ?_
          simp only [pS, pN, pA, pC, pZ]
          refine do_ rfl (.slice ra rn rc) (ex_move _) ?_
          simp only [pS, pN, pA, pC, pZ]
          refine do_ rfl (.int .i64 (((1 + c1.toNat) : Nat) : Int)) (ex_move _) ?_
          simp only [pS, pN, pA, pC, pZ]
          have r66 : Bs _ (.slice ra (1 + c1.toNat) rc) (rest.take (1 + c1.toNat)) := bs_of_sl (Sl.takeN (m := (1 + c1.toNat)) (Bs.sl hrest) (by omega))
          have r66 : Bs _ (.slice (if rc = 1 then ra else ra.map (·.add (1 * 1))) ((1 + c1.toNat) - 1) (rc - 1)) ((rest.take (1 + c1.toNat)).drop 1) := Bs.rest r66 (by omega)
          refine do_ rfl (.slice (if rc = 1 then ra else ra.map (·.add (1 * 1))) ((1 + c1.toNat) - 1) (rc - 1)) (ex_slice (l := 1) (h := (1 + c1.toNat)) (sz := 1) Tryd.underlying22 rfl (sizeof_5 _) (.inr ⟨_, rfl, rfl⟩) (.inr ⟨_, rfl, rfl⟩) (by omega) (by omega) (rfl)) ?_
          simp only [pS, pN, pA, pC, pZ]
          refine stGives S43 rfl (ex_fn (vs := #[(.slice (if rc = 1 then ra else ra.map (·.add (1 * 1))) ((1 + c1.toNat) - 1) (rc - 1))]) (map1 rfl) rfl (ent_24 _ _)) (clone_spec _ _ _ ((rest.take (1 + c1.toNat)).drop 1) (S43).sat r66 (by simp only [List.length_drop, List.length_take]; omega)) ?_
          intro v72 w67 F69 S68 le70 R71
          obtain ⟨xa73, xc74, rfl, _⟩ := R71.shape
          simp only [pS, pN, pA, pC, pZ]
          refine do_ rfl (.pointer (some ⟨n20, 1, none⟩)) (ex_nil rfl) ?_
          simp only [pS, pN, pA, pC, pZ]
          refine stStore (i := 0) (v := (.slice xa73 ((rest.take (1 + c1.toNat)).drop 1).length xc74)) S68 rfl rfl rfl rfl (size_22) (allc1 rfl) (Nat.le_of_ble_eq_true rfl) (fun w75 S76 => ?_)
          simp only [pS, pN, pA, pC, pZ]
          have S76 : St w F w75 F69 [⟨n20, [(.int .i64 ((c0.toNat : Nat) : Int)), (.slice xa73 ((rest.take (1 + c1.toNat)).drop 1).length xc74), (.slice a1 r.key.length e1), (.slice a2 r.last.length e2), (.slice a3 r.value.length e3)], 25⟩, ⟨n2, [(.int .i64 0), (.slice none 0 0), (.slice none 0 0), (.slice none 0 0), (.slice none 0 0)], 25⟩] [] := S76
          refine wl_nil (hK65 _ _ ?_)
          refine region_wl ?_
          refine do_ rfl (.slice ra rn rc) (ex_move _) ?_
          simp only [pS, pN, pA, pC, pZ]
          refine do_ rfl (.int .i64 (((1 + c1.toNat) : Nat) : Int)) (ex_move _) ?_
          simp only [pS, pN, pA, pC, pZ]
          have r77 : Bs _ (.slice (if rc = (1 + c1.toNat) then ra else ra.map (·.add ((1 + c1.toNat) * 1))) (rn - (1 + c1.toNat)) (rc - (1 + c1.toNat))) (rest.drop (1 + c1.toNat)) := Bs.rest (hrest.mono le70) (by omega)
          refine do_ rfl (.slice (if rc = (1 + c1.toNat) then ra else ra.map (·.add ((1 + c1.toNat) * 1))) (rn - (1 + c1.toNat)) (rc - (1 + c1.toNat))) (ex_slice (l := (1 + c1.toNat)) (h := rn) (sz := 1) Tryd.underlying22 rfl (sizeof_5 _) (.inr ⟨_, rfl, rfl⟩) (.inl ⟨rfl, rfl⟩) (by omega) (by omega) (rfl)) ?_
          simp only [pS, pN, pA, pC, pZ]
          refine do_ rfl (.slice (if rc = (1 + c1.toNat) then ra else ra.map (·.add ((1 + c1.toNat) * 1))) (rn - (1 + c1.toNat)) (rc - (1 + c1.toNat))) (ex_assign _) ?_
          simp only [pS, pN, pA, pC, pZ]
          refine wl_nil (hK48 _ _ ?_)
          refine region_wl ?_
          refine do_ rfl (.int .i64 (((i + 1) : Nat) : Int)) (ex_add (m := ((i : Nat) : Int)) (n := (1 : Int)) (r := (((i + 1) : Nat) : Int)) rfl rfl (by omega) (by omega) (by omega)) ?_
          simp only [pS, pN, pA, pC, pZ]
          refine do_ rfl (.int .i64 (((i + 1) : Nat) : Int)) (ex_move _) ?_
          simp only [pS, pN, pA, pC, pZ]
          refine wl_nil ?_
          exact hK45 _ _ _ (by omega) ⟨(i + 1), (⟨((rest.take (1 + c1.toNat)).drop 1), r.key, r.last, r.value⟩ : Rq), xa73, xc74, a1, e1, a2, e2, a3, e3, (if rc = (1 + c1.toNat) then ra else ra.map (·.add ((1 + c1.toNat) * 1))), (rn - (1 + c1.toNat)), (rc - (1 + c1.toNat)), (rest.drop (1 + c1.toNat)), F69, _, rfl, rfl, rfl, S76, (le44.trans le70), (by omega), R71, (hf1.mono le70), (hf2.mono le70), (hf3.mono le70), r77, (by simp only [List.length_drop]; omega), (by subst h4; rw [← hinv]; exact (decFrom_some (n := 3) he (part_long hc1 (by omega))).symm)⟩
       ·have he : (hasN c0.toNat).testBit i = false := by simpa using he
        have hx := bit_no he
        have hrn := hrest.len
        have hcap : rest.length ≤ rc := by obtain ⟨_, _, e, q, _⟩ := hrest.shape; injection e with _ _ e; rw [e]; exact q
        refine region_wl ?_
        refine do_ rfl (.int .i64 ((i : Nat) : Int)) (ex_move _) ?_
        simp only [pS, pN, pA, pC, pZ]
        refine do_ rfl (.pointer (some ⟨n20, 1, none⟩)) (ex_indexV (i := i) Tryd.underlying59 (sizeof_58 _) rfl rfl (by omega) (nagg_58 _) (by rw [h4]; rfl)) ?_
        simp only [pS, pN, pA, pC, pZ]
        refine do_ rfl (.int .i64 ((i : Nat) : Int)) (ex_assign _) ?_
        simp only [pS, pN, pA, pC, pZ]
        refine do_ rfl (.pointer (some ⟨n20, 1, none⟩)) (ex_assign _) ?_
        simp only [pS, pN, pA, pC, pZ]
        refine wl_nil (hK49 _ _ ?_)
        refine wp_seq_k (fun K78 hK78 => ?_)
        refine wp_seq_k (fun K79 hK79 => region_wl ?_)
        refine do_ rfl (.pointer (some ⟨n20, 0, none⟩)) (ex_field (q := ⟨n20, 0, none⟩) rfl (fa_25_0 _ _)) ?_
        simp only [pS, pN, pA, pC, pZ]
        refine do_ rfl (.int .i64 ((c0.toNat : Nat) : Int)) (ex_load rfl (load1 (nagg_3 _) (St.cell S43 (i := 0) rfl rfl))) ?_
        simp only [pS, pN, pA, pC, pZ]
        refine do_ rfl (.pointer (some ⟨0, c0.toNat, none⟩)) (ex_atArr (i := c0.toNat) Tryd.underlying57 (sizeof_3 _) rfl rfl (by omega)) ?_
        simp only [pS, pN, pA, pC, pZ]
        refine do_ rfl (.int .i64 (((hasN c0.toNat) : Nat) : Int)) (ex_load rfl (load1 (nagg_3 _) (has_at (hh.below S43.gr.below) hk))) ?_
        simp only [pS, pN, pA, pC, pZ]
        refine do_ rfl (.int .i64 ((i : Nat) : Int)) (ex_move _) ?_
        simp only [pS, pN, pA, pC, pZ]
        refine do_ rfl (.int .i64 ((((hasN c0.toNat) / 2 ^ i) : Nat) : Int)) (ex_shrI (m := (hasN c0.toNat)) (n := i) rfl rfl (by omega)) ?_
        simp only [pS, pN, pA, pC, pZ]
        refine do_ rfl (.int .i64 (((((hasN c0.toNat) / 2 ^ i) % 2) : Nat) : Int)) (ex_andOne (m := ((hasN c0.toNat) / 2 ^ i)) rfl rfl) ?_
        simp only [pS, pN, pA, pC, pZ]
        refine do_ rfl (.bool true) (ex_eql (m := (((((hasN c0.toNat) / 2 ^ i) % 2) : Nat) : Int)) (n := (0 : Int)) (b := true) rfl rfl (beq_iff_eq.2 (by rw [hx]; rfl))) ?_
        simp only [pS, pN, pA, pC, pZ]
        refine wl_nil (hK79 _ _ ?_)
        refine wp_cond_true rfl ?_
        refine wp_exit ?_
        refine hK48 _ _ ?_
        refine region_wl ?_
        refine do_ rfl (.int .i64 (((i + 1) : Nat) : Int)) (ex_add (m := ((i : Nat) : Int)) (n := (1 : Int)) (r := (((i + 1) : Nat) : Int)) rfl rfl (by omega) (by omega) (by omega)) ?_
        simp only [pS, pN, pA, pC, pZ]
        refine do_ rfl (.int .i64 (((i + 1) : Nat) : Int)) (ex_move _) ?_
        simp only [pS, pN, pA, pC, pZ]
        refine wl_nil ?_
        exact hK45 _ _ _ (by omega) ⟨(i + 1), r, a0, e0, a1, e1, a2, e2, a3, e3, ra, rn, rc, rest, F37, _, rfl, rfl, rfl, S43, le44, (by omega), hf0, hf1, hf2, hf3, hrest, (by omega), (by subst h4; rw [← hinv]; exact (decFrom_no (n := 3) he).symm)⟩
      ·by_cases he : (hasN c0.toNat).testBit i = true
       ·have hx := bit_yes he
        have hrn := hrest.len
        have hcap : rest.length ≤ rc := by obtain ⟨_, _, e, q, _⟩ := hrest.shape; injection e with _ _ e; rw [e]; exact q
        refine region_wl ?_
        refine do_ rfl (.int .i64 ((i : Nat) : Int)) (ex_move _) ?_
        simp only [pS, pN, pA, pC, pZ]
        refine do_ rfl (.pointer (some ⟨n20, 2, none⟩)) (ex_indexV (i := i) Tryd.underlying59 (sizeof_58 _) rfl rfl (by omega) (nagg_58 _) (by rw [h4]; rfl)) ?_
        simp only [pS, pN, pA, pC, pZ]
        refine do_ rfl (.int .i64 ((i : Nat) : Int)) (ex_assign _) ?_
        simp only [pS, pN, pA, pC, pZ]
        refine do_ rfl (.pointer (some ⟨n20, 2, none⟩)) (ex_assign _) ?_
        simp only [pS, pN, pA, pC, pZ]
        refine wl_nil (hK49 _ _ ?_)
        refine wp_seq_k (fun K80 hK80 => ?_)
        refine wp_seq_k (fun K81 hK81 => region_wl ?_)
        refine do_ rfl (.pointer (some ⟨n20, 0, none⟩)) (ex_field (q := ⟨n20, 0, none⟩) rfl (fa_25_0 _ _)) ?_
        simp only [pS, pN, pA, pC, pZ]
        refine do_ rfl (.int .i64 ((c0.toNat : Nat) : Int)) (ex_load rfl (load1 (nagg_3 _) (St.cell S43 (i := 0) rfl rfl))) ?_
        simp only [pS, pN, pA, pC, pZ]
        refine do_ rfl (.pointer (some ⟨0, c0.toNat, none⟩)) (ex_atArr (i := c0.toNat) Tryd.underlying57 (sizeof_3 _) rfl rfl (by omega)) ?_
        simp only [pS, pN, pA, pC, pZ]
        refine do_ rfl (.int .i64 (((hasN c0.toNat) : Nat) : Int)) (ex_load rfl (load1 (nagg_3 _) (has_at (hh.below S43.gr.below) hk))) ?_
        simp only [pS, pN, pA, pC, pZ]
        refine do_ rfl (.int .i64 ((i : Nat) : Int)) (ex_move _) ?_
        simp only [pS, pN, pA, pC, pZ]
        refine do_ rfl (.int .i64 ((((hasN c0.toNat) / 2 ^ i) : Nat) : Int)) (ex_shrI (m := (hasN c0.toNat)) (n := i) rfl rfl (by omega)) ?_
        simp only [pS, pN, pA, pC, pZ]
        refine do_ rfl (.int .i64 (((((hasN c0.toNat) / 2 ^ i) % 2) : Nat) : Int)) (ex_andOne (m := ((hasN c0.toNat) / 2 ^ i)) rfl rfl) ?_
        simp only [pS, pN, pA, pC, pZ]
        refine do_ rfl (.bool false) (ex_eql (m := (((((hasN c0.toNat) / 2 ^ i) % 2) : Nat) : Int)) (n := (0 : Int)) (b := false) rfl rfl (beq_eq_false_iff_ne.2 (by rw [hx]; decide))) ?_
        simp only [pS, pN, pA, pC, pZ]
        refine wl_nil (hK81 _ _ ?_)
        refine wp_cond_false rfl ?_
        refine wp_skip ?_
        refine hK80 _ _ ?_
        refine wp_seq_k (fun K82 hK82 => ?_)
        refine wp_seq_k (fun K83 hK83 => ?_)
        by_cases hz : rest.length = 0
        ·refine region_wl ?_
         refine do_ rfl (.slice ra rn rc) (ex_move _) ?_
         simp only [pS, pN, pA, pC, pZ]
         refine do_ rfl (.int .i64 ((rn : Nat) : Int)) (ex_len Tryd.underlying22 rfl) ?_
         simp only [pS, pN, pA, pC, pZ]
         refine do_ rfl (.bool true) (ex_eql (m := ((rn : Nat) : Int)) (n := (0 : Int)) (b := true) rfl rfl (beq_iff_eq.2 (by omega))) ?_
         simp only [pS, pN, pA, pC, pZ]
         refine do_ rfl (.bool true) (ex_move _) ?_
         simp only [pS, pN, pA, pC, pZ]
         refine doN (wanted_no rfl rfl rfl (c := true) rfl (by decide)) ?_
         simp only [pS, pN, pA, pC, pZ]
         refine doN (wanted_no rfl rfl rfl (c := true) rfl (by decide)) ?_
         simp only [pS, pN, pA, pC, pZ]
         refine doN (wanted_no rfl rfl rfl (c := true) rfl (by decide)) ?_
         simp only [pS, pN, pA, pC, pZ]
         refine doN (wanted_no rfl rfl rfl (c := true) rfl (by decide)) ?_
         simp only [pS, pN, pA, pC, pZ]
         refine doN (wanted_no rfl rfl rfl (c := true) rfl (by decide)) ?_
         simp only [pS, pN, pA, pC, pZ]
         refine doN (wanted_no rfl rfl rfl (c := true) rfl (by decide)) ?_
         simp only [pS, pN, pA, pC, pZ]
         refine doN (wanted_no rfl rfl rfl (c := true) rfl (by decide)) ?_
         simp only [pS, pN, pA, pC, pZ]
         refine doN (wanted_no rfl rfl rfl (c := true) rfl (by decide)) ?_
         simp only [pS, pN, pA, pC, pZ]
         refine do_ rfl (.bool true) (ex_pick (b := true) rfl) ?_
         simp only [pS, pN, pA, pC, pZ]
         refine wl_nil (hK83 _ _ ?_)
         refine wp_cond_true rfl ?_
         refine wp_seq_k (fun K84 hK84 => ?_)
         have hN : decW (hasN c0.toNat) (b.drop 1) = none := by rw [← hinv, show 4 - i = (3 - i) + 1 from by omega]; exact decFrom_none he (part_nil hz)
         have hE : wdE b = 14 := by rw [hwd, hN]
         refine region_wl ?_
         refine do_ rfl (.agg #[(.int .i64 0), (.slice none 0 0), (.slice none 0 0), (.slice none 0 0), (.slice none 0 0)]) (ex_build (ps := #[]) (bmap0) (by kernel_rfl)) ?_
         simp only [pS, pN, pA, pC, pZ]
         refine stStore (i := 1) (v := (.agg #[(.int .i64 0), (.slice none 0 0), (.slice none 0 0), (.slice none 0 0), (.slice none 0 0)])) S43 rfl rfl rfl rfl (size_25) (allc5 rfl rfl rfl rfl rfl) (Nat.le_of_ble_eq_true rfl) (fun w85 S86 => ?_)
         simp only [pS, pN, pA, pC, pZ]
         have S86 : St w F w85 F37 [⟨n20, [(.int .i64 ((c0.toNat : Nat) : Int)), (.slice a0 r.name.length e0), (.slice a1 r.key.length e1), (.slice a2 r.last.length e2), (.slice a3 r.value.length e3)], 25⟩, ⟨n2, [(.int .i64 0), (.slice none 0 0), (.slice none 0 0), (.slice none 0 0), (.slice none 0 0)], 25⟩] [] := S86
         refine do_ rfl (.int .i64 14) (ex_assign _) ?_
         simp only [pS, pN, pA, pC, pZ]
         refine wl_nil (hK84 _ _ ?_)
         refine wp_ret ?_
         (try simp only [Exit.then, Exit.inBlock, ↓reduceIte, Nat.reduceEqDiff])
         refine bodyPost_ret (v := (.tuple #[(.agg #[(.int .i64 0), (.slice none 0 0), (.slice none 0 0), (.slice none 0 0), (.slice none 0 0)]), (.int .i64 14)])) ?_ rfl ?_
         ·exact res_ct rfl ⟨_, rfl, loadN (cs := [(.int .i64 0), (.slice none 0 0), (.slice none 0 0), (.slice none 0 0), (.slice none 0 0)]) Tryd.underlying25 rfl (size_25) (St.range S86 (i := 1) rfl 0 [(.int .i64 0), (.slice none 0 0), (.slice none 0 0), (.slice none 0 0), (.slice none 0 0)] (sub_range 0 rfl))⟩ rfl
         ·exact ⟨_, _, rfl, S86.gr, decQ_bad hE (by decide)⟩
        ·obtain ⟨c1, hc1⟩ : ∃ c, rest[0]? = some c := ⟨rest[0], List.getElem?_eq_getElem (by omega)⟩
         have hb9 := UInt8.toNat_lt c1
         obtain ⟨b87, o88, ha89, c90⟩ := Bs.get hrest hc1
         refine region_wl ?_
         refine do_ rfl (.slice ra rn rc) (ex_move _) ?_
         simp only [pS, pN, pA, pC, pZ]
         refine do_ rfl (.int .i64 ((rn : Nat) : Int)) (ex_len Tryd.underlying22 rfl) ?_
         simp only [pS, pN, pA, pC, pZ]
         refine do_ rfl (.bool false) (ex_eql (m := ((rn : Nat) : Int)) (n := (0 : Int)) (b := false) rfl rfl (beq_eq_false_iff_ne.2 (by omega))) ?_
         simp only [pS, pN, pA, pC, pZ]
         refine do_ rfl (.bool false) (ex_move _) ?_
         simp only [pS, pN, pA, pC, pZ]
         refine do_ rfl (.slice ra rn rc) (ex_move _) ?_
         simp only [pS, pN, pA, pC, pZ]
         refine do_ rfl (.int .i64 ((rn : Nat) : Int)) (ex_len Tryd.underlying22 rfl) ?_
         simp only [pS, pN, pA, pC, pZ]
         refine do_ rfl (.slice ra rn rc) (ex_move _) ?_
         simp only [pS, pN, pA, pC, pZ]
         refine do_ rfl (.pointer (some ⟨b87, o88 + 0 * 1, none⟩)) (ex_at (i := 0) (sz := 1) Tryd.underlying22 (sizeof_5 _) rfl ha89 rfl (by omega) rfl) ?_
         simp only [pS, pN, pA, pC, pZ]
         refine do_ rfl (bv c1) (ex_load rfl (load1 (nagg_5 _) (St.fz S43 c90))) ?_
         simp only [pS, pN, pA, pC, pZ]
         refine do_ rfl (.int .i64 ((c1.toNat : Nat) : Int)) (ex_convert (v := (bv c1)) rfl (conv_int c1 _)) ?_
         simp only [pS, pN, pA, pC, pZ]
         refine do_ rfl (.int .i64 (((1 + c1.toNat) : Nat) : Int)) (ex_add (m := (1 : Int)) (n := ((c1.toNat : Nat) : Int)) (r := (((1 + c1.toNat) : Nat) : Int)) rfl rfl (by omega) (by omega) (by omega)) ?_
         simp only [pS, pN, pA, pC, pZ]
         by_cases hc62 : rn < (1 + c1.toNat)
         ·refine do_ rfl (.bool true) (ex_lss (m := ((rn : Nat) : Int)) (n := (((1 + c1.toNat) : Nat) : Int)) (b := true) rfl rfl (decide_eq_true (by omega))) ?_
          simp only [pS, pN, pA, pC, pZ]
          refine do_ rfl (.bool true) (ex_pick (b := false) rfl) ?_
          simp only [pS, pN, pA, pC, pZ]
          refine wl_nil (hK83 _ _ ?_)
          refine wp_cond_true rfl ?_
          refine wp_seq_k (fun K91 hK91 => ?_)
          have hN : decW (hasN c0.toNat) (b.drop 1) = none := by rw [← hinv, show 4 - i = (3 - i) + 1 from by omega]; exact decFrom_none he (part_short hc1 (by omega))
          have hE : wdE b = 14 := by rw [hwd, hN]
          refine region_wl ?_
          refine do_ rfl (.agg #[(.int .i64 0), (.slice none 0 0), (.slice none 0 0), (.slice none 0 0), (.slice none 0 0)]) (ex_build (ps := #[]) (bmap0) (by kernel_rfl)) ?_
          simp only [pS, pN, pA, pC, pZ]
          refine stStore (i := 1) (v := (.agg #[(.int .i64 0), (.slice none 0 0), (.slice none 0 0), (.slice none 0 0), (.slice none 0 0)])) S43 rfl rfl rfl rfl (size_25) (allc5 rfl rfl rfl rfl rfl) (Nat.le_of_ble_eq_true rfl) (fun w92 S93 => ?_)
          simp only [pS, pN, pA, pC, pZ]
          have S93 : St w F w92 F37 [⟨n20, [(.int .i64 ((c0.toNat : Nat) : Int)), (.slice a0 r.name.length e0), (.slice a1 r.key.length e1), (.slice a2 r.last.length e2), (.slice a3 r.value.length e3)], 25⟩, ⟨n2, [(.int .i64 0), (.slice none 0 0), (.slice none 0 0), (.slice none 0 0), (.slice none 0 0)], 25⟩] [] := S93
          refine do_ rfl (.int .i64 14) (ex_assign _) ?_
          simp only [pS, pN, pA, pC, pZ]
          refine wl_nil (hK91 _ _ ?_)
          refine wp_ret ?_
          (try simp only [Exit.then, Exit.inBlock, ↓reduceIte, Nat.reduceEqDiff])
          refine bodyPost_ret (v := (.tuple #[(.agg #[(.int .i64 0), (.slice none 0 0), (.slice none 0 0), (.slice none 0 0), (.slice none 0 0)]), (.int .i64 14)])) ?_ rfl ?_
          ·exact res_ct rfl ⟨_, rfl, loadN (cs := [(.int .i64 0), (.slice none 0 0), (.slice none 0 0), (.slice none 0 0), (.slice none 0 0)]) Tryd.underlying25 rfl (size_25) (St.range S93 (i := 1) rfl 0 [(.int .i64 0), (.slice none 0 0), (.slice none 0 0), (.slice none 0 0), (.slice none 0 0)] (sub_range 0 rfl))⟩ rfl
          ·exact ⟨_, _, rfl, S93.gr, decQ_bad hE (by decide)⟩
         ·refine do_ rfl (.bool false) (ex_lss (m := ((rn : Nat) : Int)) (n := (((1 + c1.toNat) : Nat) : Int)) (b := false) rfl rfl (decide_eq_false (by omega))) ?_
          simp only [pS, pN, pA, pC, pZ]
          refine do_ rfl (.bool false) (ex_pick (b := false) rfl) ?_
          simp only [pS, pN, pA, pC, pZ]
          refine wl_nil (hK83 _ _ ?_)
          refine wp_cond_false rfl ?_
          refine wp_skip ?_
          refine hK82 _ _ ?_
          refine wp_seq_k (fun K94 hK94 => region_wl ?_)
          refine do_ rfl (.slice ra rn rc) (ex_move _) ?_
          simp only [pS, pN, pA, pC, pZ]
          refine do_ rfl (.pointer (some ⟨b87, o88 + 0 * 1, none⟩)) (ex_at (i := 0) (sz := 1) Tryd.underlying22 (sizeof_5 _) rfl ha89 rfl (by omega) rfl) ?_
          simp only [pS, pN, pA, pC, pZ]
          refine do_ rfl (bv c1) (ex_load rfl (load1 (nagg_5 _) (St.fz S43 c90))) ?_
          simp only [pS, pN, pA, pC, pZ]
          refine do_ rfl (.int .i64 ((c1.toNat : Nat) : Int)) (ex_convert (v := (bv c1)) rfl (conv_int c1 _)) ?_
          simp only [pS, pN, pA, pC, pZ]
          refine do_ rfl (.int .i64 (((1 + c1.toNat) : Nat) : Int)) (ex_add (m := (1 : Int)) (n := ((c1.toNat : Nat) : Int)) (r := (((1 + c1.toNat) : Nat) : Int)) rfl rfl (by omega) (by omega) (by omega)) ?_
          simp only [pS, pN, pA, pC, pZ]
          refine do_ rfl (.int .i64 (((1 + c1.toNat) : Nat) : Int)) (ex_assign _) ?_
          simp only [pS, pN, pA, pC, pZ]
          refine wl_nil (hK94 _ _ ?_)
          refine wp_seq_k (fun K95 hK95 => region_wl ?_)
          refine do_ rfl (.pointer (some ⟨n20, 2, none⟩)) (ex_move _) ?_
          simp only [pS, pN, pA, pC, pZ]
          refine do_ rfl (.slice ra rn rc) (ex_move _) ?_
          simp only [pS, pN, pA, pC, pZ]
          refine do_ rfl (.int .i64 (((1 + c1.toNat) : Nat) : Int)) (ex_move _) ?_
          simp only [pS, pN, pA, pC, pZ]
          have r96 : Bs _ (.slice ra (1 + c1.toNat) rc) (rest.take (1 + c1.toNat)) := bs_of_sl (Sl.takeN (m := (1 + c1.toNat)) (Bs.sl hrest) (by omega))
          have r96 : Bs _ (.slice (if rc = 1 then ra else ra.map (·.add (1 * 1))) ((1 + c1.toNat) - 1) (rc - 1)) ((rest.take (1 + c1.toNat)).drop 1) := Bs.rest r96 (by omega)
          refine do_ rfl (.slice (if rc = 1 then ra else ra.map (·.add (1 * 1))) ((1 + c1.toNat) - 1) (rc - 1)) (ex_slice (l := 1) (h := (1 + c1.toNat)) (sz := 1) Tryd.underlying22 rfl (sizeof_5 _) (.inr ⟨_, rfl, rfl⟩) (.inr ⟨_, rfl, rfl⟩) (by omega) (by omega) (rfl)) ?_
          simp only [pS, pN, pA, pC, pZ]
          refine stGives S43 rfl (ex_fn (vs := #[(.slice (if rc = 1 then ra else ra.map (·.add (1 * 1))) ((1 + c1.toNat) - 1) (rc - 1))]) (map1 rfl) rfl (ent_24 _ _)) (clone_spec _ _ _ ((rest.take (1 + c1.toNat)).drop 1) (S43).sat r96 (by simp only [List.length_drop, List.length_take]; omega)) ?_
          intro v102 w97 F99 S98 le100 R101
          obtain ⟨xa103, xc104, rfl, _⟩ := R101.shape
          simp only [pS, pN, pA, pC, pZ]
          refine do_ rfl (.pointer (some ⟨n20, 2, none⟩)) (ex_nil rfl) ?_
          simp only [pS, pN, pA, pC, pZ]
          refine stStore (i := 0) (v := (.slice xa103 ((rest.take (1 + c1.toNat)).drop 1).length xc104)) S98 rfl rfl rfl rfl (size_22) (allc1 rfl) (Nat.le_of_ble_eq_true rfl) (fun w105 S106 => ?_)
          simp only [pS, pN, pA, pC, pZ]
          have S106 : St w F w105 F99 [⟨n20, [(.int .i64 ((c0.toNat : Nat) : Int)), (.slice a0 r.name.length e0), (.slice xa103 ((rest.take (1 + c1.toNat)).drop 1).length xc104), (.slice a2 r.last.length e2), (.slice a3 r.value.length e3)], 25⟩, ⟨n2, [(.int .i64 0), (.slice none 0 0), (.slice none 0 0), (.slice none 0 0), (.slice none 0 0)], 25⟩] [] := S106
          refine wl_nil (hK95 _ _ ?_)
          refine region_wl ?_
          refine do_ rfl (.slice ra rn rc) (ex_move _) ?_
          simp only [pS, pN, pA, pC, pZ]
          refine do_ rfl (.int .i64 (((1 + c1.toNat) : Nat) : Int)) (ex_move _) ?_
          simp only [pS, pN, pA, pC, pZ]
          have r107 : Bs _ (.slice (if rc = (1 + c1.toNat) then ra else ra.map (·.add ((1 + c1.toNat) * 1))) (rn - (1 + c1.toNat)) (rc - (1 + c1.toNat))) (rest.drop (1 + c1.toNat)) := Bs.rest (hrest.mono le100) (by omega)
          refine do_ rfl (.slice (if rc = (1 + c1.toNat) then ra else ra.map (·.add ((1 + c1.toNat) * 1))) (rn - (1 + c1.toNat)) (rc - (1 + c1.toNat))) (ex_slice (l := (1 + c1.toNat)) (h := rn) (sz := 1) Tryd.underlying22 rfl (sizeof_5 _) (.inr ⟨_, rfl, rfl⟩) (.inl ⟨rfl, rfl⟩) (by omega) (by omega) (rfl)) ?_
          simp only [pS, pN, pA, pC, pZ]
          refine do_ rfl (.slice (if rc = (1 + c1.toNat) then ra else ra.map (·.add ((1 + c1.toNat) * 1))) (rn - (1 + c1.toNat)) (rc - (1 + c1.toNat))) (ex_assign _) ?_
          simp only [pS, pN, pA, pC, pZ]
          refine wl_nil (hK48 _ _ ?_)
          refine region_wl ?_
          refine do_ rfl (.int .i64 (((i + 1) : Nat) : Int)) (ex_add (m := ((i : Nat) : Int)) (n := (1 : Int)) (r := (((i + 1) : Nat) : Int)) rfl rfl (by omega) (by omega) (by omega)) ?_
          simp only [pS, pN, pA, pC, pZ]
          refine do_ rfl (.int .i64 (((i + 1) : Nat) : Int)) (ex_move _) ?_
          simp only [pS, pN, pA, pC, pZ]
          refine wl_nil ?_
          exact hK45 _ _ _ (by omega) ⟨(i + 1), (⟨r.name, ((rest.take (1 + c1.toNat)).drop 1), r.last, r.value⟩ : Rq), a0, e0, xa103, xc104, a2, e2, a3, e3, (if rc = (1 + c1.toNat) then ra else ra.map (·.add ((1 + c1.toNat) * 1))), (rn - (1 + c1.toNat)), (rc - (1 + c1.toNat)), (rest.drop (1 + c1.toNat)), F99, _, rfl, rfl, rfl, S106, (le44.trans le100), (by omega), (hf0.mono le100), R101, (hf2.mono le100), (hf3.mono le100), r107, (by simp only [List.length_drop]; omega), (by subst h4; rw [← hinv]; exact (decFrom_some (n := 2) he (part_long hc1 (by omega))).symm)⟩
       ·have he : (hasN c0.toNat).testBit i = false := by simpa using he
        have hx := bit_no he
        have hrn := hrest.len
        have hcap : rest.length ≤ rc := by obtain ⟨_, _, e, q, _⟩ := hrest.shape; injection e with _ _ e; rw [e]; exact q
        refine region_wl ?_
        refine do_ rfl (.int .i64 ((i : Nat) : Int)) (ex_move _) ?_
        simp only [pS, pN, pA, pC, pZ]
        refine do_ rfl (.pointer (some ⟨n20, 2, none⟩)) (ex_indexV (i := i) Tryd.underlying59 (sizeof_58 _) rfl rfl (by omega) (nagg_58 _) (by rw [h4]; rfl)) ?_
        simp only [pS, pN, pA, pC, pZ]
        refine do_ rfl (.int .i64 ((i : Nat) : Int)) (ex_assign _) ?_
        simp only [pS, pN, pA, pC, pZ]
        refine do_ rfl (.pointer (some ⟨n20, 2, none⟩)) (ex_assign _) ?_
        simp only [pS, pN, pA, pC, pZ]
        refine wl_nil (hK49 _ _ ?_)
        refine wp_seq_k (fun K108 hK108 => ?_)
        refine wp_seq_k (fun K109 hK109 => region_wl ?_)
        refine do_ rfl (.pointer (some ⟨n20, 0, none⟩)) (ex_field (q := ⟨n20, 0, none⟩) rfl (fa_25_0 _ _)) ?_
        simp only [pS, pN, pA, pC, pZ]
        refine do_ rfl (.int .i64 ((c0.toNat : Nat) : Int)) (ex_load rfl (load1 (nagg_3 _) (St.cell S43 (i := 0) rfl rfl))) ?_
        simp only [pS, pN, pA, pC, pZ]
        refine do_ rfl (.pointer (some ⟨0, c0.toNat, none⟩)) (ex_atArr (i := c0.toNat) Tryd.underlying57 (sizeof_3 _) rfl rfl (by omega)) ?_
        simp only [pS, pN, pA, pC, pZ]
        refine do_ rfl (.int .i64 (((hasN c0.toNat) : Nat) : Int)) (ex_load rfl (load1 (nagg_3 _) (has_at (hh.below S43.gr.below) hk))) ?_
        simp only [pS, pN, pA, pC, pZ]
        refine do_ rfl (.int .i64 ((i : Nat) : Int)) (ex_move _) ?_
        simp only [pS, pN, pA, pC, pZ]
        refine do_ rfl (.int .i64 ((((hasN c0.toNat) / 2 ^ i) : Nat) : Int)) (ex_shrI (m := (hasN c0.toNat)) (n := i) rfl rfl (by omega)) ?_
        simp only [pS, pN, pA, pC, pZ]
        refine do_ rfl (.int .i64 (((((hasN c0.toNat) / 2 ^ i) % 2) : Nat) : Int)) (ex_andOne (m := ((hasN c0.toNat) / 2 ^ i)) rfl rfl) ?_
        simp only [pS, pN, pA, pC, pZ]
        refine do_ rfl (.bool true) (ex_eql (m := (((((hasN c0.toNat) / 2 ^ i) % 2) : Nat) : Int)) (n := (0 : Int)) (b := true) rfl rfl (beq_iff_eq.2 (by rw [hx]; rfl))) ?_
        simp only [pS, pN, pA, pC, pZ]
        refine wl_nil (hK109 _ _ ?_)
        refine wp_cond_true rfl ?_
        refine wp_exit ?_
        refine hK48 _ _ ?_
        refine region_wl ?_
        refine do_ rfl (.int .i64 (((i + 1) : Nat) : Int)) (ex_add (m := ((i : Nat) : Int)) (n := (1 : Int)) (r := (((i + 1) : Nat) : Int)) rfl rfl (by omega) (by omega) (by omega)) ?_
        simp only [pS, pN, pA, pC, pZ]
        refine do_ rfl (.int .i64 (((i + 1) : Nat) : Int)) (ex_move _) ?_
        simp only [pS, pN, pA, pC, pZ]
        refine wl_nil ?_
        exact hK45 _ _ _ (by omega) ⟨(i + 1), r, a0, e0, a1, e1, a2, e2, a3, e3, ra, rn, rc, rest, F37, _, rfl, rfl, rfl, S43, le44, (by omega), hf0, hf1, hf2, hf3, hrest, (by omega), (by subst h4; rw [← hinv]; exact (decFrom_no (n := 2) he).symm)⟩
      ·by_cases he : (hasN c0.toNat).testBit i = true
       ·have hx := bit_yes he
        have hrn := hrest.len
        have hcap : rest.length ≤ rc := by obtain ⟨_, _, e, q, _⟩ := hrest.shape; injection e with _ _ e; rw [e]; exact q
        refine region_wl ?_
        refine do_ rfl (.int .i64 ((i : Nat) : Int)) (ex_move _) ?_
        simp only [pS, pN, pA, pC, pZ]
        refine do_ rfl (.pointer (some ⟨n20, 3, none⟩)) (ex_indexV (i := i) Tryd.underlying59 (sizeof_58 _) rfl rfl (by omega) (nagg_58 _) (by rw [h4]; rfl)) ?_
        simp only [pS, pN, pA, pC, pZ]
        refine do_ rfl (.int .i64 ((i : Nat) : Int)) (ex_assign _) ?_
        simp only [pS, pN, pA, pC, pZ]
        refine do_ rfl (.pointer (some ⟨n20, 3, none⟩)) (ex_assign _) ?_
        simp only [pS, pN, pA, pC, pZ]
        refine wl_nil (hK49 _ _ ?_)
        refine wp_seq_k (fun K110 hK110 => ?_)
        refine wp_seq_k (fun K111 hK111 => region_wl ?_)
        refine do_ rfl (.pointer (some ⟨n20, 0, none⟩)) (ex_field (q := ⟨n20, 0, none⟩) rfl (fa_25_0 _ _)) ?_
        simp only [pS, pN, pA, pC, pZ]
        refine do_ rfl (.int .i64 ((c0.toNat : Nat) : Int)) (ex_load rfl (load1 (nagg_3 _) (St.cell S43 (i := 0) rfl rfl))) ?_
        simp only [pS, pN, pA, pC, pZ]
        refine do_ rfl (.pointer (some ⟨0, c0.toNat, none⟩)) (ex_atArr (i := c0.toNat) Tryd.underlying57 (sizeof_3 _) rfl rfl (by omega)) ?_
        simp only [pS, pN, pA, pC, pZ]
        refine do_ rfl (.int .i64 (((hasN c0.toNat) : Nat) : Int)) (ex_load rfl (load1 (nagg_3 _) (has_at (hh.below S43.gr.below) hk))) ?_
        simp only [pS, pN, pA, pC, pZ]
        refine do_ rfl (.int .i64 ((i : Nat) : Int)) (ex_move _) ?_
        simp only [pS, pN, pA, pC, pZ]
        refine do_ rfl (.int .i64 ((((hasN c0.toNat) / 2 ^ i) : Nat) : Int)) (ex_shrI (m := (hasN c0.toNat)) (n := i) rfl rfl (by omega)) ?_
        simp only [pS, pN, pA, pC, pZ]
        refine do_ rfl (.int .i64 (((((hasN c0.toNat) / 2 ^ i) % 2) : Nat) : Int)) (ex_andOne (m := ((hasN c0.toNat) / 2 ^ i)) rfl rfl) ?_
        simp only [pS, pN, pA, pC, pZ]
        refine do_ rfl (.bool false) (ex_eql (m := (((((hasN c0.toNat) / 2 ^ i) % 2) : Nat) : Int)) (n := (0 : Int)) (b := false) rfl rfl (beq_eq_false_iff_ne.2 (by rw [hx]; decide))) ?_
        simp only [pS, pN, pA, pC, pZ]
        refine wl_nil (hK111 _ _ ?_)
        refine wp_cond_false rfl ?_
        refine wp_skip ?_
        refine hK110 _ _ ?_
        refine wp_seq_k (fun K112 hK112 => ?_)
        refine wp_seq_k (fun K113 hK113 => ?_)
        by_cases hz : rest.length = 0
        ·refine region_wl ?_
         refine do_ rfl (.slice ra rn rc) (ex_move _) ?_
         simp only [pS, pN, pA, pC, pZ]
         refine do_ rfl (.int .i64 ((rn : Nat) : Int)) (ex_len Tryd.underlying22 rfl) ?_
         simp only [pS, pN, pA, pC, pZ]
         refine do_ rfl (.bool true) (ex_eql (m := ((rn : Nat) : Int)) (n := (0 : Int)) (b := true) rfl rfl (beq_iff_eq.2 (by omega))) ?_
         simp only [pS, pN, pA, pC, pZ]
         refine do_ rfl (.bool true) (ex_move _) ?_
         simp only [pS, pN, pA, pC, pZ]
         refine doN (wanted_no rfl rfl rfl (c := true) rfl (by decide)) ?_
         simp only [pS, pN, pA, pC, pZ]
         refine doN (wanted_no rfl rfl rfl (c := true) rfl (by decide)) ?_
         simp only [pS, pN, pA, pC, pZ]
         refine doN (wanted_no rfl rfl rfl (c := true) rfl (by decide)) ?_
         simp only [pS, pN, pA, pC, pZ]
         refine doN (wanted_no rfl rfl rfl (c := true) rfl (by decide)) ?_
         simp only [pS, pN, pA, pC, pZ]
         refine doN (wanted_no rfl rfl rfl (c := true) rfl (by decide)) ?_
         simp only [pS, pN, pA, pC, pZ]
         refine doN (wanted_no rfl rfl rfl (c := true) rfl (by decide)) ?_
         simp only [pS, pN, pA, pC, pZ]
         refine doN (wanted_no rfl rfl rfl (c := true) rfl (by decide)) ?_
         simp only [pS, pN, pA, pC, pZ]
         refine doN (wanted_no rfl rfl rfl (c := true) rfl (by decide)) ?_
         simp only [pS, pN, pA, pC, pZ]
         refine do_ rfl (.bool true) (ex_pick (b := true) rfl) ?_
         simp only [pS, pN, pA, pC, pZ]
         refine wl_nil (hK113 _ _ ?_)
         refine wp_cond_true rfl ?_
         refine wp_seq_k (fun K114 hK114 => ?_)
         have hN : decW (hasN c0.toNat) (b.drop 1) = none := by rw [← hinv, show 4 - i = (3 - i) + 1 from by omega]; exact decFrom_none he (part_nil hz)
         have hE : wdE b = 14 := by rw [hwd, hN]
         refine region_wl ?_
         refine do_ rfl (.agg #[(.int .i64 0), (.slice none 0 0), (.slice none 0 0), (.slice none 0 0), (.slice none 0 0)]) (ex_build (ps := #[]) (bmap0) (by kernel_rfl)) ?_
         simp only [pS, pN, pA, pC, pZ]
         refine stStore (i := 1) (v := (.agg #[(.int .i64 0), (.slice none 0 0), (.slice none 0 0), (.slice none 0 0), (.slice none 0 0)])) S43 rfl rfl rfl rfl (size_25) (allc5 rfl rfl rfl rfl rfl) (Nat.le_of_ble_eq_true rfl) (fun w115 S116 => ?_)
         simp only [pS, pN, pA, pC, pZ]
         have S116 : St w F w115 F37 [⟨n20, [(.int .i64 ((c0.toNat : Nat) : Int)), (.slice a0 r.name.length e0), (.slice a1 r.key.length e1), (.slice a2 r.last.length e2), (.slice a3 r.value.length e3)], 25⟩, ⟨n2, [(.int .i64 0), (.slice none 0 0), (.slice none 0 0), (.slice none 0 0), (.slice none 0 0)], 25⟩] [] := S116
         refine do_ rfl (.int .i64 14) (ex_assign _) ?_
         simp only [pS, pN, pA, pC, pZ]
         refine wl_nil (hK114 _ _ ?_)
         refine wp_ret ?_
         (try simp only [Exit.then, Exit.inBlock, ↓reduceIte, Nat.reduceEqDiff])
         refine bodyPost_ret (v := (.tuple #[(.agg #[(.int .i64 0), (.slice none 0 0), (.slice none 0 0), (.slice none 0 0), (.slice none 0 0)]), (.int .i64 14)])) ?_ rfl ?_
         ·exact res_ct rfl ⟨_, rfl, loadN (cs := [(.int .i64 0), (.slice none 0 0), (.slice none 0 0), (.slice none 0 0), (.slice none 0 0)]) Tryd.underlying25 rfl (size_25) (St.range S116 (i := 1) rfl 0 [(.int .i64 0), (.slice none 0 0), (.slice none 0 0), (.slice none 0 0), (.slice none 0 0)] (sub_range 0 rfl))⟩ rfl
         ·exact ⟨_, _, rfl, S116.gr, decQ_bad hE (by decide)⟩
        ·obtain ⟨c1, hc1⟩ : ∃ c, rest[0]? = some c := ⟨rest[0], List.getElem?_eq_getElem (by omega)⟩
         have hb9 := UInt8.toNat_lt c1
         obtain ⟨b117, o118, ha119, c120⟩ := Bs.get hrest hc1
         refine region_wl ?_
         refine do_ rfl (.slice ra rn rc) (ex_move _) ?_
         simp only [pS, pN, pA, pC, pZ]
         refine do_ rfl (.int .i64 ((rn : Nat) : Int)) (ex_len Tryd.underlying22 rfl) ?_
         simp only [pS, pN, pA, pC, pZ]
         refine do_ rfl (.bool false) (ex_eql (m := ((rn : Nat) : Int)) (n := (0 : Int)) (b := false) rfl rfl (beq_eq_false_iff_ne.2 (by omega))) ?_
         simp only [pS, pN, pA, pC, pZ]
         refine do_ rfl (.bool false) (ex_move _) ?_
         simp only [pS, pN, pA, pC, pZ]
         refine do_ rfl (.slice ra rn rc) (ex_move _) ?_
         simp only [pS, pN, pA, pC, pZ]
         refine do_ rfl (.int .i64 ((rn : Nat) : Int)) (ex_len Tryd.underlying22 rfl) ?_
         simp only [pS, pN, pA, pC, pZ]
         refine do_ rfl (.slice ra rn rc) (ex_move _) ?_
         simp only [pS, pN, pA, pC, pZ]
         refine do_ rfl (.pointer (some ⟨b117, o118 + 0 * 1, none⟩)) (ex_at (i := 0) (sz := 1) Tryd.underlying22 (sizeof_5 _) rfl ha119 rfl (by omega) rfl) ?_
         simp only [pS, pN, pA, pC, pZ]
         refine do_ rfl (bv c1) (ex_load rfl (load1 (nagg_5 _) (St.fz S43 c120))) ?_
         simp only [pS, pN, pA, pC, pZ]
         refine do_ rfl (.int .i64 ((c1.toNat : Nat) : Int)) (ex_convert (v := (bv c1)) rfl (conv_int c1 _)) ?_
         simp only [pS, pN, pA, pC, pZ]
         refine do_ rfl (.int .i64 (((1 + c1.toNat) : Nat) : Int)) (ex_add (m := (1 : Int)) (n := ((c1.toNat : Nat) : Int)) (r := (((1 + c1.toNat) : Nat) : Int)) rfl rfl (by omega) (by omega) (by omega)) ?_
         simp only [pS, pN, pA, pC, pZ]
         by_cases hc62 : rn < (1 + c1.toNat)
         ·refine do_ rfl (.bool true) (ex_lss (m := ((rn : Nat) : Int)) (n := (((1 + c1.toNat) : Nat) : Int)) (b := true) rfl rfl (decide_eq_true (by omega))) ?_
          simp only [pS, pN, pA, pC, pZ]
          refine do_ rfl (.bool true) (ex_pick (b := false) rfl) ?_
          simp only [pS, pN, pA, pC, pZ]
          refine wl_nil (hK113 _ _ ?_)
          refine wp_cond_true rfl ?_
          refine wp_seq_k (fun K121 hK121 => ?_)
          have hN : decW (hasN c0.toNat) (b.drop 1) = none := by rw [← hinv, show 4 - i = (3 - i) + 1 from by omega]; exact decFrom_none he (part_short hc1 (by omega))
          have hE : wdE b = 14 := by rw [hwd, hN]
          refine region_wl ?_
          refine do_ rfl (.agg #[(.int .i64 0), (.slice none 0 0), (.slice none 0 0), (.slice none 0 0), (.slice none 0 0)]) (ex_build (ps := #[]) (bmap0) (by kernel_rfl)) ?_
          simp only [pS, pN, pA, pC, pZ]
          refine stStore (i := 1) (v := (.agg #[(.int .i64 0), (.slice none 0 0), (.slice none 0 0), (.slice none 0 0), (.slice none 0 0)])) S43 rfl rfl rfl rfl (size_25) (allc5 rfl rfl rfl rfl rfl) (Nat.le_of_ble_eq_true rfl) (fun w122 S123 => ?_)
          simp only [pS, pN, pA, pC, pZ]
          have S123 : St w F w122 F37 [⟨n20, [(.int .i64 ((c0.toNat : Nat) : Int)), (.slice a0 r.name.length e0), (.slice a1 r.key.length e1), (.slice a2 r.last.length e2), (.slice a3 r.value.length e3)], 25⟩, ⟨n2, [(.int .i64 0), (.slice none 0 0), (.slice none 0 0), (.slice none 0 0), (.slice none 0 0)], 25⟩] [] := S123
          refine do_ rfl (.int .i64 14) (ex_assign _) ?_
          simp only [pS, pN, pA, pC, pZ]
          refine wl_nil (hK121 _ _ ?_)
          refine wp_ret ?_
          (try simp only [Exit.then, Exit.inBlock, ↓reduceIte, Nat.reduceEqDiff])
          refine bodyPost_ret (v := (.tuple #[(.agg #[(.int .i64 0), (.slice none 0 0), (.slice none 0 0), (.slice none 0 0), (.slice none 0 0)]), (.int .i64 14)])) ?_ rfl ?_
          ·exact res_ct rfl ⟨_, rfl, loadN (cs := [(.int .i64 0), (.slice none 0 0), (.slice none 0 0), (.slice none 0 0), (.slice none 0 0)]) Tryd.underlying25 rfl (size_25) (St.range S123 (i := 1) rfl 0 [(.int .i64 0), (.slice none 0 0), (.slice none 0 0), (.slice none 0 0), (.slice none 0 0)] (sub_range 0 rfl))⟩ rfl
          ·exact ⟨_, _, rfl, S123.gr, decQ_bad hE (by decide)⟩
         ·refine do_ rfl (.bool false) (ex_lss (m := ((rn : Nat) : Int)) (n := (((1 + c1.toNat) : Nat) : Int)) (b := false) rfl rfl (decide_eq_false (by omega))) ?_
          simp only [pS, pN, pA, pC, pZ]
          refine do_ rfl (.bool false) (ex_pick (b := false) rfl) ?_
          simp only [pS, pN, pA, pC, pZ]
          refine wl_nil (hK113 _ _ ?_)
          refine wp_cond_false rfl ?_
          refine wp_skip ?_
          refine hK112 _ _ ?_
          refine wp_seq_k (fun K124 hK124 => region_wl ?_)
          refine do_ rfl (.slice ra rn rc) (ex_move _) ?_
          simp only [pS, pN, pA, pC, pZ]
          refine do_ rfl (.pointer (some ⟨b117, o118 + 0 * 1, none⟩)) (ex_at (i := 0) (sz := 1) Tryd.underlying22 (sizeof_5 _) rfl ha119 rfl (by omega) rfl) ?_
          simp only [pS, pN, pA, pC, pZ]
          refine do_ rfl (bv c1) (ex_load rfl (load1 (nagg_5 _) (St.fz S43 c120))) ?_
          simp only [pS, pN, pA, pC, pZ]
          refine do_ rfl (.int .i64 ((c1.toNat : Nat) : Int)) (ex_convert (v := (bv c1)) rfl (conv_int c1 _)) ?_
          simp only [pS, pN, pA, pC, pZ]
          refine do_ rfl (.int .i64 (((1 + c1.toNat) : Nat) : Int)) (ex_add (m := (1 : Int)) (n := ((c1.toNat : Nat) : Int)) (r := (((1 + c1.toNat) : Nat) : Int)) rfl rfl (by omega) (by omega) (by omega)) ?_
          simp only [pS, pN, pA, pC, pZ]
          refine do_ rfl (.int .i64 (((1 + c1.toNat) : Nat) : Int)) (ex_assign _) ?_
          simp only [pS, pN, pA, pC, pZ]
          refine wl_nil (hK124 _ _ ?_)
          refine wp_seq_k (fun K125 hK125 => region_wl ?_)
          refine do_ rfl (.pointer (some ⟨n20, 3, none⟩)) (ex_move _) ?_
          simp only [pS, pN, pA, pC, pZ]
          refine do_ rfl (.slice ra rn rc) (ex_move _) ?_
          simp only [pS, pN, pA, pC, pZ]
          refine do_ rfl (.int .i64 (((1 + c1.toNat) : Nat) : Int)) (ex_move _) ?_
          simp only [pS, pN, pA, pC, pZ]
          have r126 : Bs _ (.slice ra (1 + c1.toNat) rc) (rest.take (1 + c1.toNat)) := bs_of_sl (Sl.takeN (m := (1 + c1.toNat)) (Bs.sl hrest) (by omega))
          have r126 : Bs _ (.slice (if rc = 1 then ra else ra.map (·.add (1 * 1))) ((1 + c1.toNat) - 1) (rc - 1)) ((rest.take (1 + c1.toNat)).drop 1) := Bs.rest r126 (by omega)
          refine do_ rfl (.slice (if rc = 1 then ra else ra.map (·.add (1 * 1))) ((1 + c1.toNat) - 1) (rc - 1)) (ex_slice (l := 1) (h := (1 + c1.toNat)) (sz := 1) Tryd.underlying22 rfl (sizeof_5 _) (.inr ⟨_, rfl, rfl⟩) (.inr ⟨_, rfl, rfl⟩) (by omega) (by omega) (rfl)) ?_
          simp only [pS, pN, pA, pC, pZ]
          refine stGives S43 rfl (ex_fn (vs := #[(.slice (if rc = 1 then ra else ra.map (·.add (1 * 1))) ((1 + c1.toNat) - 1) (rc - 1))]) (map1 rfl) rfl (ent_24 _ _)) (clone_spec _ _ _ ((rest.take (1 + c1.toNat)).drop 1) (S43).sat r126 (by simp only [List.length_drop, List.length_take]; omega)) ?_
          intro v132 w127 F129 S128 le130 R131
          obtain ⟨xa133, xc134, rfl, _⟩ := R131.shape
          simp only [pS, pN, pA, pC, pZ]
          refine do_ rfl (.pointer (some ⟨n20, 3, none⟩)) (ex_nil rfl) ?_
          simp only [pS, pN, pA, pC, pZ]
          refine stStore (i := 0) (v := (.slice xa133 ((rest.take (1 + c1.toNat)).drop 1).length xc134)) S128 rfl rfl rfl rfl (size_22) (allc1 rfl) (Nat.le_of_ble_eq_true rfl) (fun w135 S136 => ?_)
          simp only [pS, pN, pA, pC, pZ]
          have S136 : St w F w135 F129 [⟨n20, [(.int .i64 ((c0.toNat : Nat) : Int)), (.slice a0 r.name.length e0), (.slice a1 r.key.length e1), (.slice xa133 ((rest.take (1 + c1.toNat)).drop 1).length xc134), (.slice a3 r.value.length e3)], 25⟩, ⟨n2, [(.int .i64 0), (.slice none 0 0), (.slice none 0 0), (.slice none 0 0), (.slice none 0 0)], 25⟩] [] := S136
          refine wl_nil (hK125 _ _ ?_)
          refine region_wl ?_
          refine do_ rfl (.slice ra rn rc) (ex_move _) ?_
          simp only [pS, pN, pA, pC, pZ]
          refine do_ rfl (.int .i64 (((1 + c1.toNat) : Nat) : Int)) (ex_move _) ?_
          simp only [pS, pN, pA, pC, pZ]
          have r137 : Bs _ (.slice (if rc = (1 + c1.toNat) then ra else ra.map (·.add ((1 + c1.toNat) * 1))) (rn - (1 + c1.toNat)) (rc - (1 + c1.toNat))) (rest.drop (1 + c1.toNat)) := Bs.rest (hrest.mono le130) (by omega)
          refine do_ rfl (.slice (if rc = (1 + c1.toNat) then ra else ra.map (·.add ((1 + c1.toNat) * 1))) (rn - (1 + c1.toNat)) (rc - (1 + c1.toNat))) (ex_slice (l := (1 + c1.toNat)) (h := rn) (sz := 1) Tryd.underlying22 rfl (sizeof_5 _) (.inr ⟨_, rfl, rfl⟩) (.inl ⟨rfl, rfl⟩) (by omega) (by omega) (rfl)) ?_
          simp only [pS, pN, pA, pC, pZ]
          refine do_ rfl (.slice (if rc = (1 + c1.toNat) then ra else ra.map (·.add ((1 + c1.toNat) * 1))) (rn - (1 + c1.toNat)) (rc - (1 + c1.toNat))) (ex_assign _) ?_
          simp only [pS, pN, pA, pC, pZ]
          refine wl_nil (hK48 _ _ ?_)
          refine region_wl ?_
          refine do_ rfl (.int .i64 (((i + 1) : Nat) : Int)) (ex_add (m := ((i : Nat) : Int)) (n := (1 : Int)) (r := (((i + 1) : Nat) : Int)) rfl rfl (by omega) (by omega) (by omega)) ?_
          simp only [pS, pN, pA, pC, pZ]
          refine do_ rfl (.int .i64 (((i + 1) : Nat) : Int)) (ex_move _) ?_
          simp only [pS, pN, pA, pC, pZ]
          refine wl_nil ?_
          exact hK45 _ _ _ (by omega) ⟨(i + 1), (⟨r.name, r.key, ((rest.take (1 + c1.toNat)).drop 1), r.value⟩ : Rq), a0, e0, a1, e1, xa133, xc134, a3, e3, (if rc = (1 + c1.toNat) then ra else ra.map (·.add ((1 + c1.toNat) * 1))), (rn - (1 + c1.toNat)), (rc - (1 + c1.toNat)), (rest.drop (1 + c1.toNat)), F129, _, rfl, rfl, rfl, S136, (le44.trans le130), (by omega), (hf0.mono le130), (hf1.mono le130), R131, (hf3.mono le130), r137, (by simp only [List.length_drop]; omega), (by subst h4; rw [← hinv]; exact (decFrom_some (n := 1) he (part_long hc1 (by omega))).symm)⟩
       ·have he : (hasN c0.toNat).testBit i = false := by simpa using he
        have hx := bit_no he
        have hrn := hrest.len
        have hcap : rest.length ≤ rc := by obtain ⟨_, _, e, q, _⟩ := hrest.shape; injection e with _ _ e; rw [e]; exact q
        refine region_wl ?_
        refine do_ rfl (.int .i64 ((i : Nat) : Int)) (ex_move _) ?_
        simp only [pS, pN, pA, pC, pZ]
        refine do_ rfl (.pointer (some ⟨n20, 3, none⟩)) (ex_indexV (i := i) Tryd.underlying59 (sizeof_58 _) rfl rfl (by omega) (nagg_58 _) (by rw [h4]; rfl)) ?_
        simp only [pS, pN, pA, pC, pZ]
        refine do_ rfl (.int .i64 ((i : Nat) : Int)) (ex_assign _) ?_
        simp only [pS, pN, pA, pC, pZ]
        refine do_ rfl (.pointer (some ⟨n20, 3, none⟩)) (ex_assign _) ?_
        simp only [pS, pN, pA, pC, pZ]
        refine wl_nil (hK49 _ _ ?_)
        refine wp_seq_k (fun K138 hK138 => ?_)
        refine wp_seq_k (fun K139 hK139 => region_wl ?_)
        refine do_ rfl (.pointer (some ⟨n20, 0, none⟩)) (ex_field (q := ⟨n20, 0, none⟩) rfl (fa_25_0 _ _)) ?_
        simp only [pS, pN, pA, pC, pZ]
        refine do_ rfl (.int .i64 ((c0.toNat : Nat) : Int)) (ex_load rfl (load1 (nagg_3 _) (St.cell S43 (i := 0) rfl rfl))) ?_
        simp only [pS, pN, pA, pC, pZ]
        refine do_ rfl (.pointer (some ⟨0, c0.toNat, none⟩)) (ex_atArr (i := c0.toNat) Tryd.underlying57 (sizeof_3 _) rfl rfl (by omega)) ?_
        simp only [pS, pN, pA, pC, pZ]
        refine do_ rfl (.int .i64 (((hasN c0.toNat) : Nat) : Int)) (ex_load rfl (load1 (nagg_3 _) (has_at (hh.below S43.gr.below) hk))) ?_
        simp only [pS, pN, pA, pC, pZ]
        refine do_ rfl (.int .i64 ((i : Nat) : Int)) (ex_move _) ?_
        simp only [pS, pN, pA, pC, pZ]
        refine do_ rfl (.int .i64 ((((hasN c0.toNat) / 2 ^ i) : Nat) : Int)) (ex_shrI (m := (hasN c0.toNat)) (n := i) rfl rfl (by omega)) ?_
        simp only [pS, pN, pA, pC, pZ]
        refine do_ rfl (.int .i64 (((((hasN c0.toNat) / 2 ^ i) % 2) : Nat) : Int)) (ex_andOne (m := ((hasN c0.toNat) / 2 ^ i)) rfl rfl) ?_
        simp only [pS, pN, pA, pC, pZ]
        refine do_ rfl (.bool true) (ex_eql (m := (((((hasN c0.toNat) / 2 ^ i) % 2) : Nat) : Int)) (n := (0 : Int)) (b := true) rfl rfl (beq_iff_eq.2 (by rw [hx]; rfl))) ?_
        simp only [pS, pN, pA, pC, pZ]
        refine wl_nil (hK139 _ _ ?_)
        refine wp_cond_true rfl ?_
        refine wp_exit ?_
        refine hK48 _ _ ?_
        refine region_wl ?_
        refine do_ rfl (.int .i64 (((i + 1) : Nat) : Int)) (ex_add (m := ((i : Nat) : Int)) (n := (1 : Int)) (r := (((i + 1) : Nat) : Int)) rfl rfl (by omega) (by omega) (by omega)) ?_
        simp only [pS, pN, pA, pC, pZ]
        refine do_ rfl (.int .i64 (((i + 1) : Nat) : Int)) (ex_move _) ?_
        simp only [pS, pN, pA, pC, pZ]
        refine wl_nil ?_
        exact hK45 _ _ _ (by omega) ⟨(i + 1), r, a0, e0, a1, e1, a2, e2, a3, e3, ra, rn, rc, rest, F37, _, rfl, rfl, rfl, S43, le44, (by omega), hf0, hf1, hf2, hf3, hrest, (by omega), (by subst h4; rw [← hinv]; exact (decFrom_no (n := 1) he).symm)⟩
      ·by_cases he : (hasN c0.toNat).testBit i = true
       ·have hx := bit_yes he
        have hrn := hrest.len
        have hcap : rest.length ≤ rc := by obtain ⟨_, _, e, q, _⟩ := hrest.shape; injection e with _ _ e; rw [e]; exact q
        refine region_wl ?_
        refine do_ rfl (.int .i64 ((i : Nat) : Int)) (ex_move _) ?_
        simp only [pS, pN, pA, pC, pZ]
        refine do_ rfl (.pointer (some ⟨n20, 4, none⟩)) (ex_indexV (i := i) Tryd.underlying59 (sizeof_58 _) rfl rfl (by omega) (nagg_58 _) (by rw [h4]; rfl)) ?_
        simp only [pS, pN, pA, pC, pZ]
        refine do_ rfl (.int .i64 ((i : Nat) : Int)) (ex_assign _) ?_
        simp only [pS, pN, pA, pC, pZ]
        refine do_ rfl (.pointer (some ⟨n20, 4, none⟩)) (ex_assign _) ?_
        simp only [pS, pN, pA, pC, pZ]
        refine wl_nil (hK49 _ _ ?_)
        refine wp_seq_k (fun K140 hK140 => ?_)
        refine wp_seq_k (fun K141 hK141 => region_wl ?_)
        refine do_ rfl (.pointer (some ⟨n20, 0, none⟩)) (ex_field (q := ⟨n20, 0, none⟩) rfl (fa_25_0 _ _)) ?_
        simp only [pS, pN, pA, pC, pZ]
        refine do_ rfl (.int .i64 ((c0.toNat : Nat) : Int)) (ex_load rfl (load1 (nagg_3 _) (St.cell S43 (i := 0) rfl rfl))) ?_
        simp only [pS, pN, pA, pC, pZ]
        refine do_ rfl (.pointer (some ⟨0, c0.toNat, none⟩)) (ex_atArr (i := c0.toNat) Tryd.underlying57 (sizeof_3 _) rfl rfl (by omega)) ?_
        simp only [pS, pN, pA, pC, pZ]
        refine do_ rfl (.int .i64 (((hasN c0.toNat) : Nat) : Int)) (ex_load rfl (load1 (nagg_3 _) (has_at (hh.below S43.gr.below) hk))) ?_
        simp only [pS, pN, pA, pC, pZ]
        refine do_ rfl (.int .i64 ((i : Nat) : Int)) (ex_move _) ?_
        simp only [pS, pN, pA, pC, pZ]
        refine do_ rfl (.int .i64 ((((hasN c0.toNat) / 2 ^ i) : Nat) : Int)) (ex_shrI (m := (hasN c0.toNat)) (n := i) rfl rfl (by omega)) ?_
        simp only [pS, pN, pA, pC, pZ]
        refine do_ rfl (.int .i64 (((((hasN c0.toNat) / 2 ^ i) % 2) : Nat) : Int)) (ex_andOne (m := ((hasN c0.toNat) / 2 ^ i)) rfl rfl) ?_
        simp only [pS, pN, pA, pC, pZ]
        refine do_ rfl (.bool false) (ex_eql (m := (((((hasN c0.toNat) / 2 ^ i) % 2) : Nat) : Int)) (n := (0 : Int)) (b := false) rfl rfl (beq_eq_false_iff_ne.2 (by rw [hx]; decide))) ?_
        simp only [pS, pN, pA, pC, pZ]
        refine wl_nil (hK141 _ _ ?_)
        refine wp_cond_false rfl ?_
        refine wp_skip ?_
        refine hK140 _ _ ?_
        refine wp_seq_k (fun K142 hK142 => ?_)
        refine wp_seq_k (fun K143 hK143 => ?_)
        by_cases hz : rest.length = 0
        ·refine region_wl ?_
         refine do_ rfl (.slice ra rn rc) (ex_move _) ?_
         simp only [pS, pN, pA, pC, pZ]
         refine do_ rfl (.int .i64 ((rn : Nat) : Int)) (ex_len Tryd.underlying22 rfl) ?_
         simp only [pS, pN, pA, pC, pZ]
         refine do_ rfl (.bool true) (ex_eql (m := ((rn : Nat) : Int)) (n := (0 : Int)) (b := true) rfl rfl (beq_iff_eq.2 (by omega))) ?_
         simp only [pS, pN, pA, pC, pZ]
         refine do_ rfl (.bool true) (ex_move _) ?_
         simp only [pS, pN, pA, pC, pZ]
         refine doN (wanted_no rfl rfl rfl (c := true) rfl (by decide)) ?_
         simp only [pS, pN, pA, pC, pZ]
         refine doN (wanted_no rfl rfl rfl (c := true) rfl (by decide)) ?_
         simp only [pS, pN, pA, pC, pZ]
         refine doN (wanted_no rfl rfl rfl (c := true) rfl (by decide)) ?_
         simp only [pS, pN, pA, pC, pZ]
         refine doN (wanted_no rfl rfl rfl (c := true) rfl (by decide)) ?_
         simp only [pS, pN, pA, pC, pZ]
         refine doN (wanted_no rfl rfl rfl (c := true) rfl (by decide)) ?_
         simp only [pS, pN, pA, pC, pZ]
         refine doN (wanted_no rfl rfl rfl (c := true) rfl (by decide)) ?_
         simp only [pS, pN, pA, pC, pZ]
         refine doN (wanted_no rfl rfl rfl (c := true) rfl (by decide)) ?_
         simp only [pS, pN, pA, pC, pZ]
         refine doN (wanted_no rfl rfl rfl (c := true) rfl (by decide)) ?_
         simp only [pS, pN, pA, pC, pZ]
         refine do_ rfl (.bool true) (ex_pick (b := true) rfl) ?_
         simp only [pS, pN, pA, pC, pZ]
         refine wl_nil (hK143 _ _ ?_)
         refine wp_cond_true rfl ?_
         refine wp_seq_k (fun K144 hK144 => ?_)
         have hN : decW (hasN c0.toNat) (b.drop 1) = none := by rw [← hinv, show 4 - i = (3 - i) + 1 from by omega]; exact decFrom_none he (part_nil hz)
         have hE : wdE b = 14 := by rw [hwd, hN]
         refine region_wl ?_
         refine do_ rfl (.agg #[(.int .i64 0), (.slice none 0 0), (.slice none 0 0), (.slice none 0 0), (.slice none 0 0)]) (ex_build (ps := #[]) (bmap0) (by kernel_rfl)) ?_
         simp only [pS, pN, pA, pC, pZ]
         refine stStore (i := 1) (v := (.agg #[(.int .i64 0), (.slice none 0 0), (.slice none 0 0), (.slice none 0 0), (.slice none 0 0)])) S43 rfl rfl rfl rfl (size_25) (allc5 rfl rfl rfl rfl rfl) (Nat.le_of_ble_eq_true rfl) (fun w145 S146 => ?_)
         simp only [pS, pN, pA, pC, pZ]
         have S146 : St w F w145 F37 [⟨n20, [(.int .i64 ((c0.toNat : Nat) : Int)), (.slice a0 r.name.length e0), (.slice a1 r.key.length e1), (.slice a2 r.last.length e2), (.slice a3 r.value.length e3)], 25⟩, ⟨n2, [(.int .i64 0), (.slice none 0 0), (.slice none 0 0), (.slice none 0 0), (.slice none 0 0)], 25⟩] [] := S146
         refine do_ rfl (.int .i64 14) (ex_assign _) ?_
         simp only [pS, pN, pA, pC, pZ]
         refine wl_nil (hK144 _ _ ?_)
         refine wp_ret ?_
         (try simp only [Exit.then, Exit.inBlock, ↓reduceIte, Nat.reduceEqDiff])
         refine bodyPost_ret (v := (.tuple #[(.agg #[(.int .i64 0), (.slice none 0 0), (.slice none 0 0), (.slice none 0 0), (.slice none 0 0)]), (.int .i64 14)])) ?_ rfl ?_
         ·exact res_ct rfl ⟨_, rfl, loadN (cs := [(.int .i64 0), (.slice none 0 0), (.slice none 0 0), (.slice none 0 0), (.slice none 0 0)]) Tryd.underlying25 rfl (size_25) (St.range S146 (i := 1) rfl 0 [(.int .i64 0), (.slice none 0 0), (.slice none 0 0), (.slice none 0 0), (.slice none 0 0)] (sub_range 0 rfl))⟩ rfl
         ·exact ⟨_, _, rfl, S146.gr, decQ_bad hE (by decide)⟩
        ·obtain ⟨c1, hc1⟩ : ∃ c, rest[0]? = some c := ⟨rest[0], List.getElem?_eq_getElem (by omega)⟩
         have hb9 := UInt8.toNat_lt c1
         obtain ⟨b147, o148, ha149, c150⟩ := Bs.get hrest hc1
         refine region_wl ?_
         refine do_ rfl (.slice ra rn rc) (ex_move _) ?_
         simp only [pS, pN, pA, pC, pZ]
         refine do_ rfl (.int .i64 ((rn : Nat) : Int)) (ex_len Tryd.underlying22 rfl) ?_
         simp only [pS, pN, pA, pC, pZ]
         refine do_ rfl (.bool false) (ex_eql (m := ((rn : Nat) : Int)) (n := (0 : Int)) (b := false) rfl rfl (beq_eq_false_iff_ne.2 (by omega))) ?_
         simp only [pS, pN, pA, pC, pZ]
         refine do_ rfl (.bool false) (ex_move _) ?_
         simp only [pS, pN, pA, pC, pZ]
         refine do_ rfl (.slice ra rn rc) (ex_move _) ?_
         simp only [pS, pN, pA, pC, pZ]
         refine do_ rfl (.int .i64 ((rn : Nat) : Int)) (ex_len Tryd.underlying22 rfl) ?_
         simp only [pS, pN, pA, pC, pZ]
         refine do_ rfl (.slice ra rn rc) (ex_move _) ?_
         simp only [pS, pN, pA, pC, pZ]
         refine do_ rfl (.pointer (some ⟨b147, o148 + 0 * 1, none⟩)) (ex_at (i := 0) (sz := 1) Tryd.underlying22 (sizeof_5 _) rfl ha149 rfl (by omega) rfl) ?_
         simp only [pS, pN, pA, pC, pZ]
         refine do_ rfl (bv c1) (ex_load rfl (load1 (nagg_5 _) (St.fz S43 c150))) ?_
         simp only [pS, pN, pA, pC, pZ]
         refine do_ rfl (.int .i64 ((c1.toNat : Nat) : Int)) (ex_convert (v := (bv c1)) rfl (conv_int c1 _)) ?_
         simp only [pS, pN, pA, pC, pZ]
         refine do_ rfl (.int .i64 (((1 + c1.toNat) : Nat) : Int)) (ex_add (m := (1 : Int)) (n := ((c1.toNat : Nat) : Int)) (r := (((1 + c1.toNat) : Nat) : Int)) rfl rfl (by omega) (by omega) (by omega)) ?_
         simp only [pS, pN, pA, pC, pZ]
         by_cases hc62 : rn < (1 + c1.toNat)
         ·refine do_ rfl (.bool true) (ex_lss (m := ((rn : Nat) : Int)) (n := (((1 + c1.toNat) : Nat) : Int)) (b := true) rfl rfl (decide_eq_true (by omega))) ?_
          simp only [pS, pN, pA, pC, pZ]
          refine do_ rfl (.bool true) (ex_pick (b := false) rfl) ?_
          simp only [pS, pN, pA, pC, pZ]
          refine wl_nil (hK143 _ _ ?_)
          refine wp_cond_true rfl ?_
          refine wp_seq_k (fun K151 hK151 => ?_)
          have hN : decW (hasN c0.toNat) (b.drop 1) = none := by rw [← hinv, show 4 - i = (3 - i) + 1 from by omega]; exact decFrom_none he (part_short hc1 (by omega))
          have hE : wdE b = 14 := by rw [hwd, hN]
          refine region_wl ?_
          refine do_ rfl (.agg #[(.int .i64 0), (.slice none 0 0), (.slice none 0 0), (.slice none 0 0), (.slice none 0 0)]) (ex_build (ps := #[]) (bmap0) (by kernel_rfl)) ?_
          simp only [pS, pN, pA, pC, pZ]
          refine stStore (i := 1) (v := (.agg #[(.int .i64 0), (.slice none 0 0), (.slice none 0 0), (.slice none 0 0), (.slice none 0 0)])) S43 rfl rfl rfl rfl (size_25) (allc5 rfl rfl rfl rfl rfl) (Nat.le_of_ble_eq_true rfl) (fun w152 S153 => ?_)
          simp only [pS, pN, pA, pC, pZ]
          have S153 : St w F w152 F37 [⟨n20, [(.int .i64 ((c0.toNat : Nat) : Int)), (.slice a0 r.name.length e0), (.slice a1 r.key.length e1), (.slice a2 r.last.length e2), (.slice a3 r.value.length e3)], 25⟩, ⟨n2, [(.int .i64 0), (.slice none 0 0), (.slice none 0 0), (.slice none 0 0), (.slice none 0 0)], 25⟩] [] := S153
          refine do_ rfl (.int .i64 14) (ex_assign _) ?_
          simp only [pS, pN, pA, pC, pZ]
          refine wl_nil (hK151 _ _ ?_)
          refine wp_ret ?_
          (try simp only [Exit.then, Exit.inBlock, ↓reduceIte, Nat.reduceEqDiff])
          refine bodyPost_ret (v := (.tuple #[(.agg #[(.int .i64 0), (.slice none 0 0), (.slice none 0 0), (.slice none 0 0), (.slice none 0 0)]), (.int .i64 14)])) ?_ rfl ?_
          ·exact res_ct rfl ⟨_, rfl, loadN (cs := [(.int .i64 0), (.slice none 0 0), (.slice none 0 0), (.slice none 0 0), (.slice none 0 0)]) Tryd.underlying25 rfl (size_25) (St.range S153 (i := 1) rfl 0 [(.int .i64 0), (.slice none 0 0), (.slice none 0 0), (.slice none 0 0), (.slice none 0 0)] (sub_range 0 rfl))⟩ rfl
          ·exact ⟨_, _, rfl, S153.gr, decQ_bad hE (by decide)⟩
         ·refine do_ rfl (.bool false) (ex_lss (m := ((rn : Nat) : Int)) (n := (((1 + c1.toNat) : Nat) : Int)) (b := false) rfl rfl (decide_eq_false (by omega))) ?_
          simp only [pS, pN, pA, pC, pZ]
          refine do_ rfl (.bool false) (ex_pick (b := false) rfl) ?_
          simp only [pS, pN, pA, pC, pZ]
          refine wl_nil (hK143 _ _ ?_)
          refine wp_cond_false rfl ?_
          refine wp_skip ?_
          refine hK142 _ _ ?_
          refine wp_seq_k (fun K154 hK154 => region_wl ?_)
          refine do_ rfl (.slice ra rn rc) (ex_move _) ?_
          simp only [pS, pN, pA, pC, pZ]
          refine do_ rfl (.pointer (some ⟨b147, o148 + 0 * 1, none⟩)) (ex_at (i := 0) (sz := 1) Tryd.underlying22 (sizeof_5 _) rfl ha149 rfl (by omega) rfl) ?_
          simp only [pS, pN, pA, pC, pZ]
          refine do_ rfl (bv c1) (ex_load rfl (load1 (nagg_5 _) (St.fz S43 c150))) ?_
          simp only [pS, pN, pA, pC, pZ]
          refine do_ rfl (.int .i64 ((c1.toNat : Nat) : Int)) (ex_convert (v := (bv c1)) rfl (conv_int c1 _)) ?_
          simp only [pS, pN, pA, pC, pZ]
          refine do_ rfl (.int .i64 (((1 + c1.toNat) : Nat) : Int)) (ex_add (m := (1 : Int)) (n := ((c1.toNat : Nat) : Int)) (r := (((1 + c1.toNat) : Nat) : Int)) rfl rfl (by omega) (by omega) (by omega)) ?_
          simp only [pS, pN, pA, pC, pZ]
          refine do_ rfl (.int .i64 (((1 + c1.toNat) : Nat) : Int)) (ex_assign _) ?_
          simp only [pS, pN, pA, pC, pZ]
          refine wl_nil (hK154 _ _ ?_)
          refine wp_seq_k (fun K155 hK155 => region_wl ?_)
          refine do_ rfl (.pointer (some ⟨n20, 4, none⟩)) (ex_move _) ?_
          simp only [pS, pN, pA, pC, pZ]
          refine do_ rfl (.slice ra rn rc) (ex_move _) ?_
          simp only [pS, pN, pA, pC, pZ]
          refine do_ rfl (.int .i64 (((1 + c1.toNat) : Nat) : Int)) (ex_move _) ?_
          simp only [pS, pN, pA, pC, pZ]
          have r156 : Bs _ (.slice ra (1 + c1.toNat) rc) (rest.take (1 + c1.toNat)) := bs_of_sl (Sl.takeN (m := (1 + c1.toNat)) (Bs.sl hrest) (by omega))
          have r156 : Bs _ (.slice (if rc = 1 then ra else ra.map (·.add (1 * 1))) ((1 + c1.toNat) - 1) (rc - 1)) ((rest.take (1 + c1.toNat)).drop 1) := Bs.rest r156 (by omega)
          refine do_ rfl (.slice (if rc = 1 then ra else ra.map (·.add (1 * 1))) ((1 + c1.toNat) - 1) (rc - 1)) (ex_slice (l := 1) (h := (1 + c1.toNat)) (sz := 1) Tryd.underlying22 rfl (sizeof_5 _) (.inr ⟨_, rfl, rfl⟩) (.inr ⟨_, rfl, rfl⟩) (by omega) (by omega) (rfl)) ?_
          simp only [pS, pN, pA, pC, pZ]
          refine stGives S43 rfl (ex_fn (vs := #[(.slice (if rc = 1 then ra else ra.map (·.add (1 * 1))) ((1 + c1.toNat) - 1) (rc - 1))]) (map1 rfl) rfl (ent_24 _ _)) (clone_spec _ _ _ ((rest.take (1 + c1.toNat)).drop 1) (S43).sat r156 (by simp only [List.length_drop, List.length_take]; omega)) ?_
          intro v162 w157 F159 S158 le160 R161
          obtain ⟨xa163, xc164, rfl, _⟩ := R161.shape
          simp only [pS, pN, pA, pC, pZ]
          refine do_ rfl (.pointer (some ⟨n20, 4, none⟩)) (ex_nil rfl) ?_
          simp only [pS, pN, pA, pC, pZ]
          refine stStore (i := 0) (v := (.slice xa163 ((rest.take (1 + c1.toNat)).drop 1).length xc164)) S158 rfl rfl rfl rfl (size_22) (allc1 rfl) (Nat.le_of_ble_eq_true rfl) (fun w165 S166 => ?_)
          simp only [pS, pN, pA, pC, pZ]
          have S166 : St w F w165 F159 [⟨n20, [(.int .i64 ((c0.toNat : Nat) : Int)), (.slice a0 r.name.length e0), (.slice a1 r.key.length e1), (.slice a2 r.last.length e2), (.slice xa163 ((rest.take (1 + c1.toNat)).drop 1).length xc164)], 25⟩, ⟨n2, [(.int .i64 0), (.slice none 0 0), (.slice none 0 0), (.slice none 0 0), (.slice none 0 0)], 25⟩] [] := S166
          refine wl_nil (hK155 _ _ ?_)
          refine region_wl ?_
          refine do_ rfl (.slice ra rn rc) (ex_move _) ?_
          simp only [pS, pN, pA, pC, pZ]
          refine do_ rfl (.int .i64 (((1 + c1.toNat) : Nat) : Int)) (ex_move _) ?_
          simp only [pS, pN, pA, pC, pZ]
          have r167 : Bs _ (.slice (if rc = (1 + c1.toNat) then ra else ra.map (·.add ((1 + c1.toNat) * 1))) (rn - (1 + c1.toNat)) (rc - (1 + c1.toNat))) (rest.drop (1 + c1.toNat)) := Bs.rest (hrest.mono le160) (by omega)
          refine do_ rfl (.slice (if rc = (1 + c1.toNat) then ra else ra.map (·.add ((1 + c1.toNat) * 1))) (rn - (1 + c1.toNat)) (rc - (1 + c1.toNat))) (ex_slice (l := (1 + c1.toNat)) (h := rn) (sz := 1) Tryd.underlying22 rfl (sizeof_5 _) (.inr ⟨_, rfl, rfl⟩) (.inl ⟨rfl, rfl⟩) (by omega) (by omega) (rfl)) ?_
          simp only [pS, pN, pA, pC, pZ]
          refine do_ rfl (.slice (if rc = (1 + c1.toNat) then ra else ra.map (·.add ((1 + c1.toNat) * 1))) (rn - (1 + c1.toNat)) (rc - (1 + c1.toNat))) (ex_assign _) ?_
          simp only [pS, pN, pA, pC, pZ]
          refine wl_nil (hK48 _ _ ?_)
          refine region_wl ?_
          refine do_ rfl (.int .i64 (((i + 1) : Nat) : Int)) (ex_add (m := ((i : Nat) : Int)) (n := (1 : Int)) (r := (((i + 1) : Nat) : Int)) rfl rfl (by omega) (by omega) (by omega)) ?_
          simp only [pS, pN, pA, pC, pZ]
          refine do_ rfl (.int .i64 (((i + 1) : Nat) : Int)) (ex_move _) ?_
          simp only [pS, pN, pA, pC, pZ]
          refine wl_nil ?_
          exact hK45 _ _ _ (by omega) ⟨(i + 1), (⟨r.name, r.key, r.last, ((rest.take (1 + c1.toNat)).drop 1)⟩ : Rq), a0, e0, a1, e1, a2, e2, xa163, xc164, (if rc = (1 + c1.toNat) then ra else ra.map (·.add ((1 + c1.toNat) * 1))), (rn - (1 + c1.toNat)), (rc - (1 + c1.toNat)), (rest.drop (1 + c1.toNat)), F159, _, rfl, rfl, rfl, S166, (le44.trans le160), (by omega), (hf0.mono le160), (hf1.mono le160), (hf2.mono le160), R161, r167, (by simp only [List.length_drop]; omega), (by subst h4; rw [← hinv]; exact (decFrom_some (n := 0) he (part_long hc1 (by omega))).symm)⟩
       ·have he : (hasN c0.toNat).testBit i = false := by simpa using he
        have hx := bit_no he
        have hrn := hrest.len
        have hcap : rest.length ≤ rc := by obtain ⟨_, _, e, q, _⟩ := hrest.shape; injection e with _ _ e; rw [e]; exact q
        refine region_wl ?_
        refine do_ rfl (.int .i64 ((i : Nat) : Int)) (ex_move _) ?_
        simp only [pS, pN, pA, pC, pZ]
        refine do_ rfl (.pointer (some ⟨n20, 4, none⟩)) (ex_indexV (i := i) Tryd.underlying59 (sizeof_58 _) rfl rfl (by omega) (nagg_58 _) (by rw [h4]; rfl)) ?_
        simp only [pS, pN, pA, pC, pZ]
        refine do_ rfl (.int .i64 ((i : Nat) : Int)) (ex_assign _) ?_
        simp only [pS, pN, pA, pC, pZ]
        refine do_ rfl (.pointer (some ⟨n20, 4, none⟩)) (ex_assign _) ?_
        simp only [pS, pN, pA, pC, pZ]
        refine wl_nil (hK49 _ _ ?_)
        refine wp_seq_k (fun K168 hK168 => ?_)
        refine wp_seq_k (fun K169 hK169 => region_wl ?_)
        refine do_ rfl (.pointer (some ⟨n20, 0, none⟩)) (ex_field (q := ⟨n20, 0, none⟩) rfl (fa_25_0 _ _)) ?_
        simp only [pS, pN, pA, pC, pZ]
        refine do_ rfl (.int .i64 ((c0.toNat : Nat) : Int)) (ex_load rfl (load1 (nagg_3 _) (St.cell S43 (i := 0) rfl rfl))) ?_
        simp only [pS, pN, pA, pC, pZ]
        refine do_ rfl (.pointer (some ⟨0, c0.toNat, none⟩)) (ex_atArr (i := c0.toNat) Tryd.underlying57 (sizeof_3 _) rfl rfl (by omega)) ?_
        simp only [pS, pN, pA, pC, pZ]
        refine do_ rfl (.int .i64 (((hasN c0.toNat) : Nat) : Int)) (ex_load rfl (load1 (nagg_3 _) (has_at (hh.below S43.gr.below) hk))) ?_
        simp only [pS, pN, pA, pC, pZ]
        refine do_ rfl (.int .i64 ((i : Nat) : Int)) (ex_move _) ?_
        simp only [pS, pN, pA, pC, pZ]
        refine do_ rfl (.int .i64 ((((hasN c0.toNat) / 2 ^ i) : Nat) : Int)) (ex_shrI (m := (hasN c0.toNat)) (n := i) rfl rfl (by omega)) ?_
        simp only [pS, pN, pA, pC, pZ]
        refine do_ rfl (.int .i64 (((((hasN c0.toNat) / 2 ^ i) % 2) : Nat) : Int)) (ex_andOne (m := ((hasN c0.toNat) / 2 ^ i)) rfl rfl) ?_
        simp only [pS, pN, pA, pC, pZ]
        refine do_ rfl (.bool true) (ex_eql (m := (((((hasN c0.toNat) / 2 ^ i) % 2) : Nat) : Int)) (n := (0 : Int)) (b := true) rfl rfl (beq_iff_eq.2 (by rw [hx]; rfl))) ?_
        simp only [pS, pN, pA, pC, pZ]
        refine wl_nil (hK169 _ _ ?_)
        refine wp_cond_true rfl ?_
        refine wp_exit ?_
        refine hK48 _ _ ?_
        refine region_wl ?_
        refine do_ rfl (.int .i64 (((i + 1) : Nat) : Int)) (ex_add (m := ((i : Nat) : Int)) (n := (1 : Int)) (r := (((i + 1) : Nat) : Int)) rfl rfl (by omega) (by omega) (by omega)) ?_
        simp only [pS, pN, pA, pC, pZ]
        refine do_ rfl (.int .i64 (((i + 1) : Nat) : Int)) (ex_move _) ?_
        simp only [pS, pN, pA, pC, pZ]
        refine wl_nil ?_
        exact hK45 _ _ _ (by omega) ⟨(i + 1), r, a0, e0, a1, e1, a2, e2, a3, e3, ra, rn, rc, rest, F37, _, rfl, rfl, rfl, S43, le44, (by omega), hf0, hf1, hf2, hf3, hrest, (by omega), (by subst h4; rw [← hinv]; exact (decFrom_no (n := 0) he).symm)⟩
     ·refine do_ rfl (.bool false) (ex_lss (m := ((i : Nat) : Int)) (n := (4 : Int)) (b := false) rfl rfl (decide_eq_false (by omega))) ?_
      simp only [pS, pN, pA, pC, pZ]
      refine wl_nil (hK46 _ _ ?_)
      refine wp_seq_k (fun K170 hK170 => ?_)
      refine wp_cond_false rfl ?_
      refine wp_exit ?_
      refine hK35 _ _ ?_
      refine wp_seq_k (fun K171 hK171 => ?_)
      refine wp_seq_k (fun K172 hK172 => ?_)
      have hrn := hrest.len
      have hi5 : i = 4 := by omega
      have hD : decW (hasN c0.toNat) (b.drop 1) = some (r, rest) := by rw [← hinv, hi5]; rfl
      rw [hD] at hwd
      have hwd : wdE b = if 0 < rest.length then 4 else wireN c0.toNat r.name.length r.key.length r.last.length r.value.length := hwd
      refine region_wl ?_
      refine do_ rfl (.slice ra rn rc) (ex_move _) ?_
      simp only [pS, pN, pA, pC, pZ]
      refine do_ rfl (.int .i64 ((rn : Nat) : Int)) (ex_len Tryd.underlying22 rfl) ?_
      simp only [pS, pN, pA, pC, pZ]
      by_cases hc82 : 0 < rn
      ·refine do_ rfl (.bool true) (ex_gtr (m := ((rn : Nat) : Int)) (n := (0 : Int)) (b := true) rfl rfl (decide_eq_true (by omega))) ?_
       simp only [pS, pN, pA, pC, pZ]
       refine wl_nil (hK172 _ _ ?_)
       refine wp_cond_true rfl ?_
       refine wp_seq_k (fun K173 hK173 => ?_)
       have hE : wdE b = 4 := by rw [hwd, if_pos (by omega)]
       refine region_wl ?_
       refine do_ rfl (.agg #[(.int .i64 0), (.slice none 0 0), (.slice none 0 0), (.slice none 0 0), (.slice none 0 0)]) (ex_build (ps := #[]) (bmap0) (by kernel_rfl)) ?_
       simp only [pS, pN, pA, pC, pZ]
       refine stStore (i := 1) (v := (.agg #[(.int .i64 0), (.slice none 0 0), (.slice none 0 0), (.slice none 0 0), (.slice none 0 0)])) S43 rfl rfl rfl rfl (size_25) (allc5 rfl rfl rfl rfl rfl) (Nat.le_of_ble_eq_true rfl) (fun w174 S175 => ?_)
       simp only [pS, pN, pA, pC, pZ]
       have S175 : St w F w174 F37 [⟨n20, [(.int .i64 ((c0.toNat : Nat) : Int)), (.slice a0 r.name.length e0), (.slice a1 r.key.length e1), (.slice a2 r.last.length e2), (.slice a3 r.value.length e3)], 25⟩, ⟨n2, [(.int .i64 0), (.slice none 0 0), (.slice none 0 0), (.slice none 0 0), (.slice none 0 0)], 25⟩] [] := S175
       refine do_ rfl (.int .i64 4) (ex_assign _) ?_
       simp only [pS, pN, pA, pC, pZ]
       refine wl_nil (hK173 _ _ ?_)
       refine wp_ret ?_
       (try simp only [Exit.then, Exit.inBlock, ↓reduceIte, Nat.reduceEqDiff])
       refine bodyPost_ret (v := (.tuple #[(.agg #[(.int .i64 0), (.slice none 0 0), (.slice none 0 0), (.slice none 0 0), (.slice none 0 0)]), (.int .i64 4)])) ?_ rfl ?_
       ·exact res_ct rfl ⟨_, rfl, loadN (cs := [(.int .i64 0), (.slice none 0 0), (.slice none 0 0), (.slice none 0 0), (.slice none 0 0)]) Tryd.underlying25 rfl (size_25) (St.range S175 (i := 1) rfl 0 [(.int .i64 0), (.slice none 0 0), (.slice none 0 0), (.slice none 0 0), (.slice none 0 0)] (sub_range 0 rfl))⟩ rfl
       ·exact ⟨_, _, rfl, S175.gr, decQ_bad hE (by decide)⟩
      ·refine do_ rfl (.bool false) (ex_gtr (m := ((rn : Nat) : Int)) (n := (0 : Int)) (b := false) rfl rfl (decide_eq_false (by omega))) ?_
       simp only [pS, pN, pA, pC, pZ]
       refine wl_nil (hK172 _ _ ?_)
       refine wp_cond_false rfl ?_
       refine wp_skip ?_
       refine hK171 _ _ ?_
       refine wp_seq_k (fun K176 hK176 => ?_)
       refine wp_seq_k (fun K177 hK177 => ?_)
       rw [if_neg (by omega)] at hwd
       refine region_wl ?_
       refine do_ rfl (.agg #[(.int .i64 ((c0.toNat : Nat) : Int)), (.slice a0 r.name.length e0), (.slice a1 r.key.length e1), (.slice a2 r.last.length e2), (.slice a3 r.value.length e3)]) (ex_load rfl (loadN (cs := [(.int .i64 ((c0.toNat : Nat) : Int)), (.slice a0 r.name.length e0), (.slice a1 r.key.length e1), (.slice a2 r.last.length e2), (.slice a3 r.value.length e3)]) Tryd.underlying25 rfl (size_25) (St.range S43 (i := 0) rfl 0 [(.int .i64 ((c0.toNat : Nat) : Int)), (.slice a0 r.name.length e0), (.slice a1 r.key.length e1), (.slice a2 r.last.length e2), (.slice a3 r.value.length e3)] (sub_range 0 rfl)))) ?_
       simp only [pS, pN, pA, pC, pZ]
       refine stTells (v := (.int .i64 (wireN c0.toNat r.name.length r.key.length r.last.length r.value.length))) S43 rfl (ex_fn (vs := #[(.agg #[(.int .i64 ((c0.toNat : Nat) : Int)), (.slice a0 r.name.length e0), (.slice a1 r.key.length e1), (.slice a2 r.last.length e2), (.slice a3 r.value.length e3)])]) (map1 rfl) rfl (ent_23 _ _)) (wireCheck_spec _ _ _ c0.toNat r.name r.key r.last r.value (by omega) (by omega) (hh.below S43.gr.below) ⟨_, _, _, _, rfl, hf0, hf1, hf2, hf3⟩) (fun w178 S179 => ?_)
       simp only [pS, pN, pA, pC, pZ]
       refine do_ rfl (.int .i64 (wireN c0.toNat r.name.length r.key.length r.last.length r.value.length)) (ex_assign _) ?_
       simp only [pS, pN, pA, pC, pZ]
       refine wl_nil (hK177 _ _ ?_)
       refine wp_seq_k (fun K180 hK180 => region_wl ?_)
       refine do_ rfl (.int .i64 (wireN c0.toNat r.name.length r.key.length r.last.length r.value.length)) (ex_move _) ?_
       simp only [pS, pN, pA, pC, pZ]
       by_cases hc87 : (wireN c0.toNat r.name.length r.key.length r.last.length r.value.length) = (0 : Int)
       ·refine do_ rfl (.bool false) (ex_neq (m := (wireN c0.toNat r.name.length r.key.length r.last.length r.value.length)) (n := (0 : Int)) (b := false) rfl rfl (bne_eq_false_iff_eq.2 (by omega))) ?_
        simp only [pS, pN, pA, pC, pZ]
        refine wl_nil (hK180 _ _ ?_)
        refine wp_cond_false rfl ?_
        refine wp_skip ?_
        refine hK176 _ _ ?_
        refine wp_seq_k (fun K181 hK181 => region_wl ?_)
        refine do_ rfl (.agg #[(.int .i64 ((c0.toNat : Nat) : Int)), (.slice a0 r.name.length e0), (.slice a1 r.key.length e1), (.slice a2 r.last.length e2), (.slice a3 r.value.length e3)]) (ex_load rfl (loadN (cs := [(.int .i64 ((c0.toNat : Nat) : Int)), (.slice a0 r.name.length e0), (.slice a1 r.key.length e1), (.slice a2 r.last.length e2), (.slice a3 r.value.length e3)]) Tryd.underlying25 rfl (size_25) (St.range S179 (i := 0) rfl 0 [(.int .i64 ((c0.toNat : Nat) : Int)), (.slice a0 r.name.length e0), (.slice a1 r.key.length e1), (.slice a2 r.last.length e2), (.slice a3 r.value.length e3)] (sub_range 0 rfl)))) ?_
        simp only [pS, pN, pA, pC, pZ]
        refine stStore (i := 1) (v := (.agg #[(.int .i64 ((c0.toNat : Nat) : Int)), (.slice a0 r.name.length e0), (.slice a1 r.key.length e1), (.slice a2 r.last.length e2), (.slice a3 r.value.length e3)])) S179 rfl rfl rfl rfl (size_25) (allc5 rfl rfl rfl rfl rfl) (Nat.le_of_ble_eq_true rfl) (fun w182 S183 => ?_)
        simp only [pS, pN, pA, pC, pZ]
        have S183 : St w F w182 F37 [⟨n20, [(.int .i64 ((c0.toNat : Nat) : Int)), (.slice a0 r.name.length e0), (.slice a1 r.key.length e1), (.slice a2 r.last.length e2), (.slice a3 r.value.length e3)], 25⟩, ⟨n2, [(.int .i64 ((c0.toNat : Nat) : Int)), (.slice a0 r.name.length e0), (.slice a1 r.key.length e1), (.slice a2 r.last.length e2), (.slice a3 r.value.length e3)], 25⟩] [] := S183
        refine do_ rfl (.int .i64 0) (ex_assign _) ?_
        simp only [pS, pN, pA, pC, pZ]
        refine wl_nil (hK181 _ _ ?_)
        refine wp_ret ?_
        (try simp only [Exit.then, Exit.inBlock, ↓reduceIte, Nat.reduceEqDiff])
        refine bodyPost_ret (v := (.tuple #[(.agg #[(.int .i64 ((c0.toNat : Nat) : Int)), (.slice a0 r.name.length e0), (.slice a1 r.key.length e1), (.slice a2 r.last.length e2), (.slice a3 r.value.length e3)]), (.int .i64 0)])) ?_ rfl ?_
        ·exact res_ct rfl ⟨_, rfl, loadN (cs := [(.int .i64 ((c0.toNat : Nat) : Int)), (.slice a0 r.name.length e0), (.slice a1 r.key.length e1), (.slice a2 r.last.length e2), (.slice a3 r.value.length e3)]) Tryd.underlying25 rfl (size_25) (St.range S183 (i := 1) rfl 0 [(.int .i64 ((c0.toNat : Nat) : Int)), (.slice a0 r.name.length e0), (.slice a1 r.key.length e1), (.slice a2 r.last.length e2), (.slice a3 r.value.length e3)] (sub_range 0 rfl))⟩ rfl
        ·exact ⟨_, _, rfl, S183.gr, by unfold DecQ; rw [wd_rq hc0 (hwd.trans (by omega)) hD, hwd.trans (show _ = (0 : Int) by omega)]; exact ⟨_, rfl, _, _, _, _, rfl, hf0, hf1, hf2, hf3⟩⟩
       ·refine do_ rfl (.bool true) (ex_neq (m := (wireN c0.toNat r.name.length r.key.length r.last.length r.value.length)) (n := (0 : Int)) (b := true) rfl rfl (bne_iff_ne.2 (by omega))) ?_
        simp only [pS, pN, pA, pC, pZ]
        refine wl_nil (hK180 _ _ ?_)
        refine wp_cond_true rfl ?_
        refine wp_seq_k (fun K184 hK184 => region_wl ?_)
        refine do_ rfl (.agg #[(.int .i64 0), (.slice none 0 0), (.slice none 0 0), (.slice none 0 0), (.slice none 0 0)]) (ex_build (ps := #[]) (bmap0) (by kernel_rfl)) ?_
        simp only [pS, pN, pA, pC, pZ]
        refine do_ rfl (.int .i64 (wireN c0.toNat r.name.length r.key.length r.last.length r.value.length)) (ex_move _) ?_
        simp only [pS, pN, pA, pC, pZ]
        refine stStore (i := 1) (v := (.agg #[(.int .i64 0), (.slice none 0 0), (.slice none 0 0), (.slice none 0 0), (.slice none 0 0)])) S179 rfl rfl rfl rfl (size_25) (allc5 rfl rfl rfl rfl rfl) (Nat.le_of_ble_eq_true rfl) (fun w185 S186 => ?_)
        simp only [pS, pN, pA, pC, pZ]
        have S186 : St w F w185 F37 [⟨n20, [(.int .i64 ((c0.toNat : Nat) : Int)), (.slice a0 r.name.length e0), (.slice a1 r.key.length e1), (.slice a2 r.last.length e2), (.slice a3 r.value.length e3)], 25⟩, ⟨n2, [(.int .i64 0), (.slice none 0 0), (.slice none 0 0), (.slice none 0 0), (.slice none 0 0)], 25⟩] [] := S186
        refine do_ rfl (.int .i64 (wireN c0.toNat r.name.length r.key.length r.last.length r.value.length)) (ex_assign _) ?_
        simp only [pS, pN, pA, pC, pZ]
        refine wl_nil (hK184 _ _ ?_)
        refine wp_ret ?_
        (try simp only [Exit.then, Exit.inBlock, ↓reduceIte, Nat.reduceEqDiff])
        refine bodyPost_ret (v := (.tuple #[(.agg #[(.int .i64 0), (.slice none 0 0), (.slice none 0 0), (.slice none 0 0), (.slice none 0 0)]), (.int .i64 (wireN c0.toNat r.name.length r.key.length r.last.length r.value.length))])) ?_ rfl ?_
        ·exact res_ct rfl ⟨_, rfl, loadN (cs := [(.int .i64 0), (.slice none 0 0), (.slice none 0 0), (.slice none 0 0), (.slice none 0 0)]) Tryd.underlying25 rfl (size_25) (St.range S186 (i := 1) rfl 0 [(.int .i64 0), (.slice none 0 0), (.slice none 0 0), (.slice none 0 0), (.slice none 0 0)] (sub_range 0 rfl))⟩ rfl
        ·exact ⟨_, _, rfl, S186.gr, decQ_bad hwd (by omega)⟩
end Go.Proofs.YticbfdhdipfjmaaDoor
namespace Go.Proofs.YticbfdhdipfjmaaDoor
open Go.RowKit
set_option maxRecDepth 100000
set_option linter.unusedVariables false
set_option linter.unusedSimpArgs false
theorem request_all (kind : Int) (n y l x : By) (k1 : -9223372036854775808 ≤ kind) (k2 : kind ≤ 9223372036854775807) : ∃ (k : Nat) (r : Rq), RqOk k r ∧ ∀ (F : Fz) (w : World) (a b c d : Value), Sat w F → Bs F a n → Bs F b y → Bs F c l → Bs F d x →
    Calls Tryd.prog 10 #[.agg #[.int .i64 kind, a, b, c, d]] w (Gives w F fun F' u => ReqV F' u ((k : Nat) : Int) r.name r.key r.last r.value) := by
  obtain ⟨K, hK⟩ : ∃ K : Nat, reqKind kind = K := ⟨(reqKind kind).toNat, by have := reqKind_bd kind; omega⟩
  obtain ⟨K1, K8, L0, _⟩ := reqLens kind n y l x K hK
  refine ⟨K, ⟨reqName kind n, reqKey kind y, reqLast kind l, reqValue kind x⟩, ⟨⟨K1, K8⟩, L0⟩, fun F w a b c d hs ha hb hc hd => ?_⟩
  have := request_spec F w kind a b c d n y l x hs ha hb hc hd k1 k2
  rwa [hK] at this
theorem wireDecIs_spec (F : Fz) (w : World) (v : Value) (b : By) {e : Int} {k : Nat} {r : Rq} (hs : Sat w F) (hh : Has w) (hb : Bs F v b) (he : wdE b = e) (hr : wdR b = (k, r)) :
    Calls Tryd.prog 12 #[v] w (Gives w F fun F' u => ∃ x, u = .tuple #[x, .int .i64 e] ∧ ReqV F' x ((k : Nat) : Int) r.name r.key r.last r.value) := by
  have := wireDecode_spec F w v b hs hh hb
  unfold DecQ at this
  rw [he, hr] at this
  exact this
theorem wd_no {b : By} {e : Int} (h : wdE b = e) (h0 : e ≠ 0) : wdR b = (0, ⟨[], [], [], []⟩) := wdR_bad (by rw [h]; exact h0)
end Go.Proofs.YticbfdhdipfjmaaDoor
