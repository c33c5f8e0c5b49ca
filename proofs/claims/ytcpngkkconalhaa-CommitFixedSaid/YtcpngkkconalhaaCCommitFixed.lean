/- The walk of CommitFixed -/
import Derived.Test.YtcpngkkconalhaaBT10
namespace Go.Proofs.Ytcpngkkconalhaa
open Go.RowKit
set_option maxRecDepth 100000
set_option linter.unusedVariables false
set_option linter.unusedSimpArgs false
set_option maxHeartbeats 8000000 in
theorem decodeLong_spec (F : Fz) (w : World) (v : Value) (b : By) (hs : Sat w F) (hb : Bs F v b) (hl : 4000 < b.length) :
    Calls Try.prog 38 #[v] w (Gives w F (DecR ⟨0, []⟩ 1)) := by
 obtain ⟨x, y, rfl, hc1, hc2⟩ := hb.shape
 unfold maxLen at hc2
 have S := St.start hs
 go_enter Try.func38, Try.ntmps38
 refine wp_seq_k (fun K1 hK1 => region_wl ?_)
 refine stNew S (v := fun n => .pointer (some ⟨n, 0, none⟩)) rfl (ex_alloc (zero_50 _)) (fun n2 w3 S4 => ?_)
 simp only [pS, pN, pA, pC, pZ]
 have S4 : St w F w3 F [⟨n2, [(.int .i64 0), (.slice none 0 0)], 50⟩] [] := S4
 refine do_ rfl (.int .i64 0) (ex_assign _) ?_
 simp only [pS, pN, pA, pC, pZ]
 refine wl_nil (hK1 _ _ ?_)
 refine wp_seq_k (fun K5 hK5 => ?_)
 refine wp_seq_k (fun K6 hK6 => region_wl ?_)
 refine do_ rfl (.slice x b.length y) (ex_move _) ?_
 simp only [pS, pN, pA, pC, pZ]
 refine do_ rfl (.int .i64 ((b.length : Nat) : Int)) (ex_len Try.underlying25 rfl) ?_
 simp only [pS, pN, pA, pC, pZ]
 refine do_ rfl (.bool true) (ex_gtr (m := ((b.length : Nat) : Int)) (n := (4000 : Int)) (b := true) rfl rfl (decide_eq_true (by omega))) ?_
 simp only [pS, pN, pA, pC, pZ]
 refine wl_nil (hK6 _ _ ?_)
 refine wp_cond_true rfl ?_
 refine wp_seq_k (fun K7 hK7 => region_wl ?_)
 refine do_ rfl (.agg #[(.int .i64 0), (.slice none 0 0)]) (ex_build (ps := #[]) (bmap0) (by kernel_rfl)) ?_
 simp only [pS, pN, pA, pC, pZ]
 refine stStore (i := 0) (v := (.agg #[(.int .i64 0), (.slice none 0 0)])) S4 rfl rfl rfl rfl (size_50) (allc2 rfl rfl) (Nat.le_of_ble_eq_true rfl) (fun w8 S9 => ?_)
 simp only [pS, pN, pA, pC, pZ]
 have S9 : St w F w8 F [⟨n2, [(.int .i64 0), (.slice none 0 0)], 50⟩] [] := S9
 refine do_ rfl (.int .i64 1) (ex_assign _) ?_
 simp only [pS, pN, pA, pC, pZ]
 refine wl_nil (hK7 _ _ ?_)
 refine wp_ret ?_
 (try simp only [Exit.then, Exit.inBlock, ↓reduceIte, Nat.reduceEqDiff])
 refine bodyPost_ret (v := (.tuple #[(.agg #[(.int .i64 0), (.slice none 0 0)]), (.int .i64 1)])) ?_ rfl ?_
 ·exact res_ct rfl ⟨_, rfl, loadN (cs := [(.int .i64 0), (.slice none 0 0)]) Try.underlying50 rfl (size_50) (St.range S9 (i := 0) rfl 0 [(.int .i64 0), (.slice none 0 0)] (sub_range 0 rfl))⟩ rfl
 ·exact ⟨_, _, rfl, S9.gr, _, rfl, none, 0, rfl, Sl.nil _ _ _⟩
theorem decodeAny_spec (F : Fz) (w : World) (v : Value) (b : By) (hs : Sat w F) (hb : Bs F v b) {e : Int} {m : Cm} (he : e = if 4000 < b.length then 1 else decE b) (hm : m = if 4000 < b.length then ⟨0, []⟩ else decC b) :
    Calls Try.prog 38 #[v] w (Gives w F (DecR m e)) := by
  by_cases hl : 4000 < b.length
  · rw [if_pos hl] at he hm
    subst he; subst hm; exact decodeLong_spec F w v b hs hb hl
  · rw [if_neg hl] at he hm
    subst he; subst hm; exact decode_spec F w v b hs hb (by omega)
theorem dec_fixed {b : By} {e : Int} {m : Cm} (he : e = if 4000 < b.length then 1 else decE b) (hm : m = if 4000 < b.length then ⟨0, []⟩ else decC b) : (e ≠ 0 → m = ⟨0, []⟩) ∧ (e = 0 → CmOk m ∧ encCm m.turn m.writes = b) := by
  by_cases hl : 4000 < b.length
  · rw [if_pos hl] at he hm
    exact ⟨fun _ => hm, fun h => by omega⟩
  · rw [if_neg hl] at he hm
    subst he; subst hm
    constructor
    · intro h
      unfold decC; rw [if_neg h]
    · intro h
      have hC : decC b = ⟨(cmR ⟨b, false⟩).1.1, (cmR ⟨b, false⟩).1.2⟩ := by unfold decC; rw [if_pos h]
      unfold decE at h
      by_cases hs : (cmR ⟨b, false⟩).2.short = true
      · rw [if_pos hs] at h; exact absurd h (by decide)
      · rw [if_neg hs] at h
        by_cases hr : 0 < (cmR ⟨b, false⟩).2.rest.length
        · rw [if_pos hr] at h; exact absurd h (by decide)
        · rw [if_neg hr] at h
          rw [hC]
          exact ⟨tapeE_ok.1 h, (cmR_inv (by simpa using hs) (List.eq_nil_of_length_eq_zero (by omega))).symm⟩
set_option maxHeartbeats 8000000 in
theorem commitFixed_walk (W : World) (v0 : Value) (l0 : By) (z0 : Bs (whole W) v0 l0) (hlen : l0.length ≤ 140737488355328) :
    Calls Try.prog 8 #[v0] W (Tells W (.bool true)) := by
 obtain ⟨a0, c0, rfl, _⟩ := z0.shape
 obtain ⟨i5, hi5, hz5, hs5, hb5⟩ := info_parts infoU8
 have S := St.start (Sat.whole W)
 go_enter Try.func8, Try.ntmps8
 refine wp_seq_k (fun K101 hK101 => region_wl ?_)
 refine do_ rfl (.bool false) (ex_assign _) ?_
 simp only [pS, pN, pA, pC, pZ]
 refine wl_nil (hK101 _ _ ?_)
 refine wp_seq_k (fun K102 hK102 => ?_)
 obtain ⟨e, he⟩ : ∃ e : Int, e = if 4000 < l0.length then 1 else decE l0 := ⟨_, rfl⟩
 obtain ⟨m, hm⟩ : ∃ m : Cm, m = if 4000 < l0.length then ⟨0, []⟩ else decC l0 := ⟨_, rfl⟩
 have hfx := dec_fixed he hm
 refine region_wl ?_
 refine do_ rfl (.slice a0 l0.length c0) (ex_move _) ?_
 simp only [pS, pN, pA, pC, pZ]
 have S103 := St.addNil S 1 ByC ByC.mono 5 W.heap.size
 refine stAppendS (r := 0) (u := (.slice a0 l0.length c0)) S103 rfl i5 (.int .u8 0) 1 Try.underlying25 hi5 hz5 hs5 hb5 rfl (by decide) rfl rfl rfl (Sl.toW (Bs.sl z0) (S103).sat) ByC.one (Nat.le_refl _) S103.gr.below.size (by unfold maxLen; simp only [List.length_nil]; omega) (by simp only [List.length_nil]; omega) ?_
 intro v104 w105 S106 hn107
 simp only [pS, pN, pA, pC, pZ]
 have S106 : St W (whole W) w105 (whole W) [] [ownP 1 ByC ByC.mono 5 W.heap.size v104 ([] ++ l0)] := S106
 rw [List.nil_append] at S106
 obtain ⟨F108, S109, le110, hv111⟩ := St.freeze S106 (i := 0) rfl (Nat.le_refl _)
 have S109 : St W (whole W) w105 F108 [] [] := S109
 have hv111 : Bys _ v104 l0 := hv111
 have r112 := bs_of_sl hv111
 obtain ⟨a113, c114, rfl, _⟩ := r112.shape
 refine stGives S109 rfl (ex_fn (vs := #[(.slice a113 l0.length c114)]) (map1 rfl) rfl (ent_38 _ _)) (decodeAny_spec _ _ _ l0 (S109).sat r112 he hm) ?_
 intro v120 w115 F117 S116 le118 R119
 obtain ⟨_, rfl, xa121, xc122, rfl, r123⟩ := R119
 simp only [pS, pN, pA, pC, pZ]
 refine do_ rfl (.tuple #[(.agg #[(.int .i64 ((m.turn : Nat) : Int)), (.slice xa121 m.writes.length xc122)]), (.int .i64 e)]) (ex_move _) ?_
 simp only [pS, pN, pA, pC, pZ]
 refine do_ rfl (.agg #[(.int .i64 ((m.turn : Nat) : Int)), (.slice xa121 m.writes.length xc122)]) (ex_extract rfl rfl) ?_
 simp only [pS, pN, pA, pC, pZ]
 refine do_ rfl (.int .i64 e) (ex_extract rfl rfl) ?_
 simp only [pS, pN, pA, pC, pZ]
 refine stNew S116 (v := fun n => .pointer (some ⟨n, 0, none⟩)) rfl (ex_alloc (zero_50 _)) (fun n124 w125 S126 => ?_)
 simp only [pS, pN, pA, pC, pZ]
 have S126 : St W (whole W) w125 F117 [⟨n124, [(.int .i64 0), (.slice none 0 0)], 50⟩] [] := S126
 refine stStore (i := 0) (v := (.agg #[(.int .i64 ((m.turn : Nat) : Int)), (.slice xa121 m.writes.length xc122)])) S126 rfl rfl rfl rfl (size_50) (allc2 rfl rfl) (Nat.le_of_ble_eq_true rfl) (fun w127 S128 => ?_)
 simp only [pS, pN, pA, pC, pZ]
 have S128 : St W (whole W) w127 F117 [⟨n124, [(.int .i64 ((m.turn : Nat) : Int)), (.slice xa121 m.writes.length xc122)], 50⟩] [] := S128
 refine do_ rfl (.int .i64 e) (ex_assign _) ?_
 simp only [pS, pN, pA, pC, pZ]
 refine wl_nil (hK102 _ _ ?_)
 refine wp_seq_k (fun K129 hK129 => ?_)
 refine wp_seq_k (fun K130 hK130 => region_wl ?_)
 refine do_ rfl (.int .i64 e) (ex_move _) ?_
 simp only [pS, pN, pA, pC, pZ]
 by_cases hc14 : e = (0 : Int)
 ·refine do_ rfl (.bool false) (ex_neq (m := e) (n := (0 : Int)) (b := false) rfl rfl (bne_eq_false_iff_eq.2 (by omega))) ?_
  simp only [pS, pN, pA, pC, pZ]
  refine wl_nil (hK130 _ _ ?_)
  refine wp_cond_false rfl ?_
  refine wp_skip ?_
  refine hK129 _ _ ?_
  refine wp_seq_k (fun K131 hK131 => ?_)
  obtain ⟨hok, hbk⟩ := hfx.2 (by omega)
  refine region_wl ?_
  refine do_ rfl (.agg #[(.int .i64 ((m.turn : Nat) : Int)), (.slice xa121 m.writes.length xc122)]) (ex_load rfl (loadN (cs := [(.int .i64 ((m.turn : Nat) : Int)), (.slice xa121 m.writes.length xc122)]) Try.underlying50 rfl (size_50) (St.range S128 (i := 0) rfl 0 [(.int .i64 ((m.turn : Nat) : Int)), (.slice xa121 m.writes.length xc122)] (sub_range 0 rfl)))) ?_
  simp only [pS, pN, pA, pC, pZ]
  refine stGives S128 rfl (ex_fn (vs := #[(.agg #[(.int .i64 ((m.turn : Nat) : Int)), (.slice xa121 m.writes.length xc122)])]) (map1 rfl) rfl (ent_26 _ _)) (encode_spec _ _ _ (⟨m.turn, m.writes⟩ : Cm) (S128).sat ⟨_, _, rfl, r123⟩ hok) ?_
  intro v137 w132 F134 S133 le135 R136
  obtain ⟨_, rfl, r140⟩ := R136
  obtain ⟨a138, c139, rfl, h141, _⟩ := r140.shape
  have h141 : (encCm m.turn m.writes).length ≤ c139 := h141
  have r140 : Bs _ (.slice a138 (encCm m.turn m.writes).length c139) (encCm m.turn m.writes) := r140
  simp only [pS, pN, pA, pC, pZ]
  refine do_ rfl (.tuple #[(.slice a138 (encCm m.turn m.writes).length c139), (.int .i64 0)]) (ex_move _) ?_
  simp only [pS, pN, pA, pC, pZ]
  refine do_ rfl (.slice a138 (encCm m.turn m.writes).length c139) (ex_extract rfl rfl) ?_
  simp only [pS, pN, pA, pC, pZ]
  refine do_ rfl (.int .i64 0) (ex_extract rfl rfl) ?_
  simp only [pS, pN, pA, pC, pZ]
  refine do_ rfl (.slice a138 (encCm m.turn m.writes).length c139) (ex_assign _) ?_
  simp only [pS, pN, pA, pC, pZ]
  refine do_ rfl (.int .i64 0) (ex_assign _) ?_
  simp only [pS, pN, pA, pC, pZ]
  refine wl_nil (hK131 _ _ ?_)
  refine wp_seq_k (fun K142 hK142 => region_wl ?_)
  refine do_ rfl (.int .i64 0) (ex_move _) ?_
  simp only [pS, pN, pA, pC, pZ]
  refine do_ rfl (.bool true) (ex_eql (m := (0 : Int)) (n := (0 : Int)) (b := true) rfl rfl (beq_iff_eq.2 (by omega))) ?_
  simp only [pS, pN, pA, pC, pZ]
  refine do_ rfl (.bool true) (ex_move _) ?_
  simp only [pS, pN, pA, pC, pZ]
  refine do_ rfl (.slice a138 (encCm m.turn m.writes).length c139) (ex_move _) ?_
  simp only [pS, pN, pA, pC, pZ]
  refine do_ rfl (.slice a0 l0.length c0) (ex_move _) ?_
  simp only [pS, pN, pA, pC, pZ]
  refine stTells (v := (.bool true)) S133 rfl (ex_fn (vs := #[(.slice a138 (encCm m.turn m.writes).length c139), (.slice a0 l0.length c0)]) (map2 rfl rfl) rfl (ent_31 _ _)) (tells_bool (tells_same (same_spec _ _ _ _ (encCm m.turn m.writes) l0 (S133).sat r140 (z0.mono ((le110.trans le118).trans le135)))) (beq_iff_eq.2 (hbk))) (fun w143 S144 => ?_)
  simp only [pS, pN, pA, pC, pZ]
  refine do_ rfl (.bool true) (ex_pick (b := true) rfl) ?_
  simp only [pS, pN, pA, pC, pZ]
  refine do_ rfl (.bool true) (ex_assign _) ?_
  simp only [pS, pN, pA, pC, pZ]
  refine wl_nil (hK142 _ _ ?_)
  refine wp_ret ?_
  (try simp only [Exit.then, Exit.inBlock, ↓reduceIte, Nat.reduceEqDiff])
  refine bodyPost_ret (v := (.bool true)) ?_ rfl ?_
  ·exact res_t rfl rfl
  ·exact ⟨rfl, S144.gr.below⟩
 ·refine do_ rfl (.bool true) (ex_neq (m := e) (n := (0 : Int)) (b := true) rfl rfl (bne_iff_ne.2 (by omega))) ?_
  simp only [pS, pN, pA, pC, pZ]
  refine wl_nil (hK130 _ _ ?_)
  refine wp_cond_true rfl ?_
  refine wp_seq_k (fun K145 hK145 => ?_)
  have hz := hfx.1 (by omega)
  have hz1 : m.turn = 0 := by rw [hz]
  have hz2 : m.writes.length = 0 := by rw [hz]; rfl
  refine region_wl ?_
  refine do_ rfl (.pointer (some ⟨n124, 0, none⟩)) (ex_field (q := ⟨n124, 0, none⟩) rfl (fa_50_0 _ _)) ?_
  simp only [pS, pN, pA, pC, pZ]
  refine do_ rfl (.int .i64 ((m.turn : Nat) : Int)) (ex_load rfl (load1 (nagg_3 _) (St.cell S128 (i := 0) rfl rfl))) ?_
  simp only [pS, pN, pA, pC, pZ]
  refine do_ rfl (.bool true) (ex_eql (m := ((m.turn : Nat) : Int)) (n := (0 : Int)) (b := true) rfl rfl (beq_iff_eq.2 (by omega))) ?_
  simp only [pS, pN, pA, pC, pZ]
  refine do_ rfl (.bool true) (ex_move _) ?_
  simp only [pS, pN, pA, pC, pZ]
  refine do_ rfl (.pointer (some ⟨n124, 1, none⟩)) (ex_field (q := ⟨n124, 1, none⟩) rfl (fa_50_1 _ _)) ?_
  simp only [pS, pN, pA, pC, pZ]
  refine do_ rfl (.slice xa121 m.writes.length xc122) (ex_load rfl (load1 (nagg_44 _) (St.cell S128 (i := 0) rfl rfl))) ?_
  simp only [pS, pN, pA, pC, pZ]
  refine do_ rfl (.int .i64 ((m.writes.length : Nat) : Int)) (ex_len Try.underlying44 rfl) ?_
  simp only [pS, pN, pA, pC, pZ]
  refine do_ rfl (.bool true) (ex_eql (m := ((m.writes.length : Nat) : Int)) (n := (0 : Int)) (b := true) rfl rfl (beq_iff_eq.2 (by omega))) ?_
  simp only [pS, pN, pA, pC, pZ]
  refine do_ rfl (.bool true) (ex_pick (b := true) rfl) ?_
  simp only [pS, pN, pA, pC, pZ]
  refine do_ rfl (.bool true) (ex_assign _) ?_
  simp only [pS, pN, pA, pC, pZ]
  refine wl_nil (hK145 _ _ ?_)
  refine wp_ret ?_
  (try simp only [Exit.then, Exit.inBlock, ↓reduceIte, Nat.reduceEqDiff])
  refine bodyPost_ret (v := (.bool true)) ?_ rfl ?_
  ·exact res_t rfl rfl
  ·exact ⟨rfl, S128.gr.below⟩
end Go.Proofs.Ytcpngkkconalhaa
