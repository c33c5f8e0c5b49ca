/- The walk of WireFixed -/
import Derived.Test.YticbfdhdipfjmaaDoorBW6
namespace Go.Proofs.YticbfdhdipfjmaaDoor
open Go.RowKit
set_option maxRecDepth 100000
set_option linter.unusedVariables false
set_option linter.unusedSimpArgs false
set_option maxHeartbeats 8000000 in
theorem wireFixed_walk (W : World) (v0 : Value) (l0 : By) (z0 : Bs (whole W) v0 l0) (hh : Has W) (hlen : l0.length ≤ 140737488355328) :
    Calls Tryd.prog 4 #[v0] W (Tells W (.bool true)) := by
 obtain ⟨a0, c0, rfl, _⟩ := z0.shape
 obtain ⟨i5, hi5, hz5, hs5, hb5⟩ := info_parts infoU8
 have S := St.start (Sat.whole W)
 go_enter Tryd.func4, Tryd.ntmps4
 refine wp_seq_k (fun K101 hK101 => region_wl ?_)
 refine do_ rfl (.bool false) (ex_assign _) ?_
 simp only [pS, pN, pA, pC, pZ]
 refine wl_nil (hK101 _ _ ?_)
 refine wp_seq_k (fun K102 hK102 => ?_)
 obtain ⟨e, he⟩ : ∃ e : Int, wdE l0 = e := ⟨_, rfl⟩
 obtain ⟨k, r, hr⟩ : ∃ (k : Nat) (r : Rq), wdR l0 = (k, r) := ⟨_, _, rfl⟩
 refine region_wl ?_
 refine do_ rfl (.slice a0 l0.length c0) (ex_move _) ?_
 simp only [pS, pN, pA, pC, pZ]
 have S103 := St.addNil S 1 ByC ByC.mono 5 W.heap.size
 refine stAppendS (r := 0) (u := (.slice a0 l0.length c0)) S103 rfl i5 (.int .u8 0) 1 Tryd.underlying22 hi5 hz5 hs5 hb5 rfl (by decide) rfl rfl rfl (Sl.toW (Bs.sl z0) (S103).sat) ByC.one (Nat.le_refl _) S103.gr.below.size (by unfold maxLen; simp only [List.length_nil]; omega) (by simp only [List.length_nil]; omega) ?_
 intro v104 w105 S106 hn107
 simp only [pS, pN, pA, pC, pZ]
 have S106 : St W (whole W) w105 (whole W) [] [ownP 1 ByC ByC.mono 5 W.heap.size v104 ([] ++ l0)] := S106
 rw [List.nil_append] at S106
 obtain ⟨F108, S109, le110, hv111⟩ := St.freeze S106 (i := 0) rfl (Nat.le_refl _)
 have S109 : St W (whole W) w105 F108 [] [] := S109
 have hv111 : Bys _ v104 l0 := hv111
 have r112 := bs_of_sl hv111
 obtain ⟨a113, c114, rfl, _⟩ := r112.shape
 refine stGives S109 rfl (ex_fn (vs := #[(.slice a113 l0.length c114)]) (map1 rfl) rfl (ent_12 _ _)) (wireDecIs_spec _ _ _ l0 (S109).sat (hh.below S109.gr.below) r112 he hr) ?_
 intro v120 w115 F117 S116 le118 R119
 obtain ⟨_, rfl, r121⟩ := R119
 obtain ⟨_, _, _, _, rfl, r130, r131, r132, r133⟩ := r121
 obtain ⟨xa122, xc126, rfl, _⟩ := r130.shape
 obtain ⟨xa123, xc127, rfl, _⟩ := r131.shape
 obtain ⟨xa124, xc128, rfl, _⟩ := r132.shape
 obtain ⟨xa125, xc129, rfl, _⟩ := r133.shape
 simp only [pS, pN, pA, pC, pZ]
 refine do_ rfl (.tuple #[(.agg #[(.int .i64 ((k : Nat) : Int)), (.slice xa122 r.name.length xc126), (.slice xa123 r.key.length xc127), (.slice xa124 r.last.length xc128), (.slice xa125 r.value.length xc129)]), (.int .i64 e)]) (ex_move _) ?_
 simp only [pS, pN, pA, pC, pZ]
 refine do_ rfl (.agg #[(.int .i64 ((k : Nat) : Int)), (.slice xa122 r.name.length xc126), (.slice xa123 r.key.length xc127), (.slice xa124 r.last.length xc128), (.slice xa125 r.value.length xc129)]) (ex_extract rfl rfl) ?_
 simp only [pS, pN, pA, pC, pZ]
 refine do_ rfl (.int .i64 e) (ex_extract rfl rfl) ?_
 simp only [pS, pN, pA, pC, pZ]
 refine stNew S116 (v := fun n => .pointer (some ⟨n, 0, none⟩)) rfl (ex_alloc (zero_25 _)) (fun n138 w139 S140 => ?_)
 simp only [pS, pN, pA, pC, pZ]
 have S140 : St W (whole W) w139 F117 [⟨n138, [(.int .i64 0), (.slice none 0 0), (.slice none 0 0), (.slice none 0 0), (.slice none 0 0)], 25⟩] [] := S140
 refine stStore (i := 0) (v := (.agg #[(.int .i64 ((k : Nat) : Int)), (.slice xa122 r.name.length xc126), (.slice xa123 r.key.length xc127), (.slice xa124 r.last.length xc128), (.slice xa125 r.value.length xc129)])) S140 rfl rfl rfl rfl (size_25) (allc5 rfl rfl rfl rfl rfl) (Nat.le_of_ble_eq_true rfl) (fun w141 S142 => ?_)
 simp only [pS, pN, pA, pC, pZ]
 have S142 : St W (whole W) w141 F117 [⟨n138, [(.int .i64 ((k : Nat) : Int)), (.slice xa122 r.name.length xc126), (.slice xa123 r.key.length xc127), (.slice xa124 r.last.length xc128), (.slice xa125 r.value.length xc129)], 25⟩] [] := S142
 refine do_ rfl (.int .i64 e) (ex_assign _) ?_
 simp only [pS, pN, pA, pC, pZ]
 refine wl_nil (hK102 _ _ ?_)
 refine wp_seq_k (fun K143 hK143 => ?_)
 refine wp_seq_k (fun K144 hK144 => region_wl ?_)
 refine do_ rfl (.int .i64 e) (ex_move _) ?_
 simp only [pS, pN, pA, pC, pZ]
 by_cases hc14 : e = (0 : Int)
 ·refine do_ rfl (.bool false) (ex_neq (m := e) (n := (0 : Int)) (b := false) rfl rfl (bne_eq_false_iff_eq.2 (by omega))) ?_
  simp only [pS, pN, pA, pC, pZ]
  refine wl_nil (hK144 _ _ ?_)
  refine wp_cond_false rfl ?_
  refine wp_skip ?_
  refine hK143 _ _ ?_
  refine wp_seq_k (fun K145 hK145 => ?_)
  obtain ⟨hok, hbk⟩ := wd_fixed (he.trans (by omega))
  rw [hr] at hok hbk
  have hbk : l0 = encQ k r := hbk
  have hok : RqOk k r := hok
  refine region_wl ?_
  refine do_ rfl (.agg #[(.int .i64 ((k : Nat) : Int)), (.slice xa122 r.name.length xc126), (.slice xa123 r.key.length xc127), (.slice xa124 r.last.length xc128), (.slice xa125 r.value.length xc129)]) (ex_load rfl (loadN (cs := [(.int .i64 ((k : Nat) : Int)), (.slice xa122 r.name.length xc126), (.slice xa123 r.key.length xc127), (.slice xa124 r.last.length xc128), (.slice xa125 r.value.length xc129)]) Tryd.underlying25 rfl (size_25) (St.range S142 (i := 0) rfl 0 [(.int .i64 ((k : Nat) : Int)), (.slice xa122 r.name.length xc126), (.slice xa123 r.key.length xc127), (.slice xa124 r.last.length xc128), (.slice xa125 r.value.length xc129)] (sub_range 0 rfl)))) ?_
  simp only [pS, pN, pA, pC, pZ]
  refine stGives S142 rfl (ex_fn (vs := #[(.agg #[(.int .i64 ((k : Nat) : Int)), (.slice xa122 r.name.length xc126), (.slice xa123 r.key.length xc127), (.slice xa124 r.last.length xc128), (.slice xa125 r.value.length xc129)])]) (map1 rfl) rfl (ent_11 _ _)) (wireEncode_spec _ _ _ k r (S142).sat (hh.below S142.gr.below) ⟨_, _, _, _, rfl, r130, r131, r132, r133⟩ hok) ?_
  intro v151 w146 F148 S147 le149 R150
  obtain ⟨_, rfl, r154⟩ := R150
  obtain ⟨a152, c153, rfl, h155, _⟩ := r154.shape
  have h155 : (encQ k r).length ≤ c153 := h155
  have r154 : Bs _ (.slice a152 (encQ k r).length c153) (encQ k r) := r154
  simp only [pS, pN, pA, pC, pZ]
  refine do_ rfl (.tuple #[(.slice a152 (encQ k r).length c153), (.int .i64 0)]) (ex_move _) ?_
  simp only [pS, pN, pA, pC, pZ]
  refine do_ rfl (.slice a152 (encQ k r).length c153) (ex_extract rfl rfl) ?_
  simp only [pS, pN, pA, pC, pZ]
  refine do_ rfl (.int .i64 0) (ex_extract rfl rfl) ?_
  simp only [pS, pN, pA, pC, pZ]
  refine do_ rfl (.slice a152 (encQ k r).length c153) (ex_assign _) ?_
  simp only [pS, pN, pA, pC, pZ]
  refine do_ rfl (.int .i64 0) (ex_assign _) ?_
  simp only [pS, pN, pA, pC, pZ]
  refine wl_nil (hK145 _ _ ?_)
  refine wp_seq_k (fun K156 hK156 => region_wl ?_)
  refine do_ rfl (.int .i64 0) (ex_move _) ?_
  simp only [pS, pN, pA, pC, pZ]
  refine do_ rfl (.bool true) (ex_eql (b := true) rfl rfl (by decide)) ?_
  simp only [pS, pN, pA, pC, pZ]
  refine do_ rfl (.bool true) (ex_move _) ?_
  simp only [pS, pN, pA, pC, pZ]
  refine do_ rfl (.slice a0 l0.length c0) (ex_move _) ?_
  simp only [pS, pN, pA, pC, pZ]
  refine do_ rfl (.slice a152 (encQ k r).length c153) (ex_move _) ?_
  simp only [pS, pN, pA, pC, pZ]
  refine stTells (v := (.bool true)) S147 rfl (ex_fn (vs := #[(.slice a0 l0.length c0), (.slice a152 (encQ k r).length c153)]) (map2 rfl rfl) rfl (ent_13 _ _)) (tells_bool (tells_same (same_spec _ _ _ _ l0 (encQ k r) (S147).sat (z0.mono ((le110.trans le118).trans le149)) r154)) (beq_iff_eq.2 (hbk))) (fun w157 S158 => ?_)
  simp only [pS, pN, pA, pC, pZ]
  refine do_ rfl (.bool true) (ex_pick (b := true) rfl) ?_
  simp only [pS, pN, pA, pC, pZ]
  refine do_ rfl (.bool true) (ex_assign _) ?_
  simp only [pS, pN, pA, pC, pZ]
  refine wl_nil (hK156 _ _ ?_)
  refine wp_ret ?_
  (try simp only [Exit.then, Exit.inBlock, ↓reduceIte, Nat.reduceEqDiff])
  refine bodyPost_ret (v := (.bool true)) ?_ rfl ?_
  ·exact res_t rfl rfl
  ·exact ⟨rfl, S158.gr.below⟩
 ·refine do_ rfl (.bool true) (ex_neq (m := e) (n := (0 : Int)) (b := true) rfl rfl (bne_iff_ne.2 (by omega))) ?_
  simp only [pS, pN, pA, pC, pZ]
  refine wl_nil (hK144 _ _ ?_)
  refine wp_cond_true rfl ?_
  refine wp_seq_k (fun K159 hK159 => ?_)
  have hz := hr.symm.trans (wd_no he (by omega))
  have hz1 : k = 0 := congrArg Prod.fst hz
  have hz2 : r.name.length = 0 := by rw [show r = ⟨[], [], [], []⟩ from congrArg Prod.snd hz]; rfl
  refine region_wl ?_
  refine do_ rfl (.pointer (some ⟨n138, 0, none⟩)) (ex_field (q := ⟨n138, 0, none⟩) rfl (fa_25_0 _ _)) ?_
  simp only [pS, pN, pA, pC, pZ]
  refine do_ rfl (.int .i64 ((k : Nat) : Int)) (ex_load rfl (load1 (nagg_3 _) (St.cell S142 (i := 0) rfl rfl))) ?_
  simp only [pS, pN, pA, pC, pZ]
  refine do_ rfl (.bool true) (ex_eql (m := ((k : Nat) : Int)) (n := (0 : Int)) (b := true) rfl rfl (beq_iff_eq.2 (by omega))) ?_
  simp only [pS, pN, pA, pC, pZ]
  refine do_ rfl (.bool true) (ex_move _) ?_
  simp only [pS, pN, pA, pC, pZ]
  refine do_ rfl (.pointer (some ⟨n138, 1, none⟩)) (ex_field (q := ⟨n138, 1, none⟩) rfl (fa_25_1 _ _)) ?_
  simp only [pS, pN, pA, pC, pZ]
  refine do_ rfl (.slice xa122 r.name.length xc126) (ex_load rfl (load1 (nagg_22 _) (St.cell S142 (i := 0) rfl rfl))) ?_
  simp only [pS, pN, pA, pC, pZ]
  refine do_ rfl (.int .i64 ((r.name.length : Nat) : Int)) (ex_len Tryd.underlying22 rfl) ?_
  simp only [pS, pN, pA, pC, pZ]
  refine do_ rfl (.bool true) (ex_eql (m := ((r.name.length : Nat) : Int)) (n := (0 : Int)) (b := true) rfl rfl (beq_iff_eq.2 (by omega))) ?_
  simp only [pS, pN, pA, pC, pZ]
  refine do_ rfl (.bool true) (ex_pick (b := true) rfl) ?_
  simp only [pS, pN, pA, pC, pZ]
  refine do_ rfl (.bool true) (ex_assign _) ?_
  simp only [pS, pN, pA, pC, pZ]
  refine wl_nil (hK159 _ _ ?_)
  refine wp_ret ?_
  (try simp only [Exit.then, Exit.inBlock, ↓reduceIte, Nat.reduceEqDiff])
  refine bodyPost_ret (v := (.bool true)) ?_ rfl ?_
  ·exact res_t rfl rfl
  ·exact ⟨rfl, S142.gr.below⟩
end Go.Proofs.YticbfdhdipfjmaaDoor
