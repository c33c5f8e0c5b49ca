/- The walk of GetModel -/
import Derived.Test.YtlimmmidfhpakaaGM4
import Derived.Test.YtlimmmidfhpakaaGM3
import Derived.Test.YtlimmmidfhpakaaGM2
namespace Go.Proofs.Ytlimmmidfhpakaa
open Go.RowKit
set_option maxRecDepth 100000
set_option linter.unusedVariables false
set_option linter.unusedSimpArgs false
set_option maxHeartbeats 8000000 in
theorem getModel_walk (W : World) (v0 : Value) (l0 : List Pl) (z0 : Pls (whole W) v0 l0) :
    Calls Try.prog 3 #[v0] W (Tells W (.bool true)) := by
 obtain ⟨a0, c0, rfl, q0, q0'⟩ := Sl.shape z0
 unfold maxLen at q0'
 have S := St.start (Sat.whole W)
 go_enter Try.func3, Try.ntmps3
 refine wp_seq_k (fun K101 hK101 => region_wl ?_)
 refine do_ rfl (.bool false) (ex_assign _) ?_
 simp only [pS, pN, pA, pC, pZ]
 refine wl_nil (hK101 _ _ ?_)
 refine wp_seq_k (fun K102 hK102 => region_wl ?_)
 refine do_ rfl (.slice none 0 0) (ex_assign _) ?_
 simp only [pS, pN, pA, pC, pZ]
 refine wl_nil (hK102 _ _ ?_)
 refine wp_seq_k (fun K103 hK103 => region_wl ?_)
 refine stMakeMap S rfl (fun n104 w105 S106 => ?_)
 simp only [pS, pN, pA, pC, pZ]
 have S106 : St W (whole W) w105 (whole W) [] [mapP n104 []] := S106
 refine do_ rfl (.map (some n104)) (ex_assign _) ?_
 simp only [pS, pN, pA, pC, pZ]
 refine wl_nil (hK103 _ _ ?_)
 refine wp_seq_k (fun K107 hK107 => ?_)
 have hJ114 : ∀ (a111 : Act) (w110 : World), (∃ (n : Nat) (pa : Option Addr) (pc : Nat) (F108 : Fz) (u109 : Nat → Value), u109 = slots a111 ∧ a111 = ⟨#[(.slice a0 l0.length c0), undef, (u109 2), (.slice pa (gmT l0 n).length pc), (.map (some n104)), (u109 5), (u109 6), (u109 7), (u109 8), (u109 9), (u109 10), undef, undef, undef, undef, undef, undef, (.map (some n104)), (u109 18), (u109 19), (u109 20), (u109 21), (u109 22), (u109 23), (u109 24), (u109 25), (u109 26), (u109 27), (u109 28), (u109 29), (u109 30), (u109 31), (u109 32), (u109 33), (u109 34), (u109 35), (u109 36), (u109 37), (u109 38), (u109 39), (u109 40), (u109 41), (u109 42), (u109 43), (u109 44), (u109 45), (u109 46), (u109 47), (u109 48), (u109 49), (u109 50), (u109 51), (u109 52), (u109 53), (u109 54), (u109 55), (u109 56), (u109 57), (u109 58), (u109 59), (u109 60), (u109 61), (u109 62), (u109 63), (u109 64), (u109 65), (u109 66), (u109 67), (u109 68), undef, undef, undef, undef, undef, undef, undef, undef, undef, undef, undef, undef, undef, undef, undef, undef, undef, undef, undef, undef, undef, undef, undef, undef, undef, undef, undef, undef, undef, undef, undef, undef, undef, undef, undef, undef, undef, undef, undef, undef, undef, undef, undef, undef, undef, undef, undef, undef, undef, undef, undef, undef, undef, undef, undef, undef], []⟩ ∧ St W (whole W) w110 F108 [] [mapP n104 (gmM l0 n)] ∧ Le (whole W) F108 ∧ (n ≤ l0.length) ∧ (n ≤ 40) ∧ (l0.length ≤ n ∨ 40 ≤ n) ∧ (Prs F108 (.slice pa (gmT l0 n).length pc) (gmT l0 n))) → K107 a111 w110 := by
  rintro a111 w110 ⟨n, pa, pc, F108, u109, -, rfl, S112, le113, hi, him, hnl, hps⟩
  refine hK107 _ _ ?_
  refine wp_seq_k (fun K115 hK115 => ?_)
  refine wp_seq_k (fun K116 hK116 => region_wl ?_)
  refine do_ rfl (.int .i64 0) (ex_assign _) ?_
  simp only [pS, pN, pA, pC, pZ]
  refine wl_nil (hK116 _ _ ?_)
  refine wp_block ?_
  refine wp_loop_g (fun mm aa w119 => ∃ (j : Nat) (F117 : Fz) (u118 : Nat → Value), mm = l0.length - j ∧ u118 = slots aa ∧ aa = ⟨#[(.slice a0 l0.length c0), undef, (u118 2), (.slice pa (gmT l0 n).length pc), (.map (some n104)), (u109 5), (u109 6), (u109 7), (u109 8), (u109 9), (u109 10), (.int .i64 ((j : Nat) : Int)), (u118 12), (u118 13), (u118 14), (u118 15), (u118 16), (.map (some n104)), (u109 18), (u109 19), (u109 20), (u109 21), (u109 22), (u109 23), (u109 24), (u109 25), (u109 26), (u109 27), (u109 28), (u109 29), (u109 30), (u109 31), (u109 32), (u109 33), (u109 34), (u109 35), (u109 36), (u109 37), (u109 38), (u109 39), (u109 40), (u109 41), (u109 42), (u109 43), (u109 44), (u109 45), (u109 46), (u109 47), (u109 48), (u109 49), (u109 50), (u109 51), (u109 52), (u109 53), (u109 54), (u109 55), (u109 56), (u109 57), (u109 58), (u109 59), (u109 60), (u109 61), (u109 62), (u109 63), (u109 64), (u109 65), (u109 66), (u109 67), (u109 68), (u118 69), (u118 70), (u118 71), (u118 72), (u118 73), (u118 74), (u118 75), (u118 76), (u118 77), (u118 78), (u118 79), (u118 80), (u118 81), (u118 82), (u118 83), (u118 84), (u118 85), (u118 86), (u118 87), (u118 88), (u118 89), (u118 90), (u118 91), (u118 92), (u118 93), (u118 94), (u118 95), (u118 96), (u118 97), (u118 98), (u118 99), (u118 100), (u118 101), (u118 102), (u118 103), (u118 104), (u118 105), (u118 106), (u118 107), (u118 108), (u118 109), (u118 110), (u118 111), (u118 112), (u118 113), undef, undef, undef, undef, undef, undef, undef, undef, undef, undef, undef], []⟩ ∧ St W (whole W) w119 F117 [] [mapP n104 (gmM l0 n)] ∧ Le F108 F117 ∧ (j ≤ l0.length)) _ ⟨0, F108, _, rfl, rfl, rfl, S112, Le.refl _, (by omega)⟩ ?_
  rintro m120 a121 w122 ⟨j, F117, u118, rfl, -, rfl, S123, le124, hj⟩ K125 hK125
  refine wp_seq_k (fun K126 hK126 => ?_)
  refine wp_seq_k (fun K127 hK127 => region_wl ?_)
  refine do_ rfl (.int .i64 ((j : Nat) : Int)) (ex_move _) ?_
  simp only [pS, pN, pA, pC, pZ]
  refine do_ rfl (.slice a0 l0.length c0) (ex_move _) ?_
  simp only [pS, pN, pA, pC, pZ]
  refine do_ rfl (.int .i64 ((l0.length : Nat) : Int)) (ex_len Try.underlying22 rfl) ?_
  simp only [pS, pN, pA, pC, pZ]
  by_cases hc72 : j < l0.length
  ·refine do_ rfl (.bool true) (ex_lss (m := ((j : Nat) : Int)) (n := ((l0.length : Nat) : Int)) (b := true) rfl rfl (decide_eq_true (by omega))) ?_
   simp only [pS, pN, pA, pC, pZ]
   refine do_ rfl (.bool true) (ex_move _) ?_
   simp only [pS, pN, pA, pC, pZ]
   refine do_ rfl (.int .i64 ((j : Nat) : Int)) (ex_move _) ?_
   simp only [pS, pN, pA, pC, pZ]
   by_cases hc75 : j < 40
   ·refine do_ rfl (.bool true) (ex_lss (m := ((j : Nat) : Int)) (n := (40 : Int)) (b := true) rfl rfl (decide_eq_true (by omega))) ?_
    simp only [pS, pN, pA, pC, pZ]
    refine do_ rfl (.bool true) (ex_pick (b := true) rfl) ?_
    simp only [pS, pN, pA, pC, pZ]
    refine wl_nil (hK127 _ _ ?_)
    refine wp_cond_true rfl ?_
    refine wp_skip ?_
    refine hK126 _ _ ?_
    refine wp_seq_k (fun K128 hK128 => ?_)
    refine wp_block ?_
    refine wp_seq_k (fun K129 hK129 => ?_)
    obtain ⟨q, hq⟩ : ∃ p, l0[j]? = some p := ⟨l0[j]'(by omega), List.getElem?_eq_getElem (by omega)⟩
    have hok_q := writeP_ok q
    obtain ⟨b130, o131, ha132, xa134, xc135, xa138, xc139, xa142, xc143, c133, c137, c141, c145, r136, r140, r144⟩ := Pls.get (z0.mono (le113.trans le124)) hq
    refine region_wl ?_
    refine do_ rfl (.slice a0 l0.length c0) (ex_move _) ?_
    simp only [pS, pN, pA, pC, pZ]
    refine do_ rfl (.int .i64 ((j : Nat) : Int)) (ex_move _) ?_
    simp only [pS, pN, pA, pC, pZ]
    refine do_ rfl (.pointer (some ⟨b130, o131 + j * 4, none⟩)) (ex_at (i := j) (sz := 4) Try.underlying22 (sizeof_30 _) rfl ha132 rfl (by omega) rfl) ?_
    simp only [pS, pN, pA, pC, pZ]
    refine do_ rfl (.agg #[(.slice xa134 q.name.length xc135), (.slice xa138 q.key.length xc139), (.slice xa142 q.value.length xc143), (.bool q.gone)]) (ex_load rfl (loadN (cs := [(.slice xa134 q.name.length xc135), (.slice xa138 q.key.length xc139), (.slice xa142 q.value.length xc143), (.bool q.gone)]) Try.underlying30 rfl (size_30) (range4 (St.fz S123 c133) (St.fz S123 c137) (St.fz S123 c141) (St.fz S123 c145)))) ?_
    simp only [pS, pN, pA, pC, pZ]
    refine stGives S123 rfl (ex_fn (vs := #[(.agg #[(.slice xa134 q.name.length xc135), (.slice xa138 q.key.length xc139), (.slice xa142 q.value.length xc143), (.bool q.gone)])]) (map1 rfl) rfl (ent_6 _ _)) (keepWrite_spec _ _ _ q (S123).sat ⟨_, _, _, _, _, _, rfl, r136, r140, r144⟩) ?_
    intro v151 w146 F148 S147 le149 R150
    obtain ⟨xa152, xc153, xa154, xc155, xa156, xc157, rfl, r158, r159, r160⟩ := R150
    simp only [pS, pN, pA, pC, pZ]
    refine stNew S147 (v := fun n => .pointer (some ⟨n, 0, none⟩)) rfl (ex_alloc (zero_27 _)) (fun n161 w162 S163 => ?_)
    simp only [pS, pN, pA, pC, pZ]
    have S163 : St W (whole W) w162 F148 [⟨n161, [(.slice none 0 0), (.slice none 0 0), (.bool false), (.slice none 0 0)], 27⟩] [mapP n104 (gmM l0 n)] := S163
    refine stStore (i := 0) (v := (.agg #[(.slice xa152 (writeP q).name.length xc153), (.slice xa154 (writeP q).key.length xc155), (.bool (writeP q).gone), (.slice xa156 (writeP q).value.length xc157)])) S163 rfl rfl rfl rfl (size_27) (allc4 rfl rfl rfl rfl) (Nat.le_of_ble_eq_true rfl) (fun w164 S165 => ?_)
    simp only [pS, pN, pA, pC, pZ]
    have S165 : St W (whole W) w164 F148 [⟨n161, [(.slice xa152 (writeP q).name.length xc153), (.slice xa154 (writeP q).key.length xc155), (.bool (writeP q).gone), (.slice xa156 (writeP q).value.length xc157)], 27⟩] [mapP n104 (gmM l0 n)] := S165
    refine wl_nil (hK129 _ _ ?_)
    refine wp_seq_k (fun K166 hK166 => region_wl ?_)
    refine do_ rfl (.slice pa (gmT l0 n).length pc) (ex_move _) ?_
    simp only [pS, pN, pA, pC, pZ]
    refine do_ rfl (.pointer (some ⟨n161, 1, none⟩)) (ex_field (q := ⟨n161, 1, none⟩) rfl (fa_27_1 _ _)) ?_
    simp only [pS, pN, pA, pC, pZ]
    refine do_ rfl (.slice xa154 (writeP q).key.length xc155) (ex_load rfl (load1 (nagg_25 _) (St.cell S165 (i := 0) rfl rfl))) ?_
    simp only [pS, pN, pA, pC, pZ]
    refine stGives S165 rfl (ex_fn (vs := #[(.slice pa (gmT l0 n).length pc), (.slice xa154 (writeP q).key.length xc155)]) (map2 rfl rfl) rfl (ent_9 _ _)) (getIs_spec _ _ _ _ (gmT l0 n) (writeP q).key (S165).sat (hps.mono (le124.trans le149)) r159 ((gm_ok l0 n (by omega)).tree.mono (by omega)) ⟨WrOk.key1 hok_q, WrOk.key2 hok_q⟩ ((gm_ok l0 n (by omega)).same _)) ?_
    intro v172 w167 F169 S168 le170 R171
    obtain ⟨_, rfl, a173, c174, rfl, r175⟩ := R171
    have r175 : Bs _ (.slice a173 ((getT (gmM l0 n) (writeP q).key).getD []).length c174) ((getT (gmM l0 n) (writeP q).key).getD []) := r175
    simp only [pS, pN, pA, pC, pZ]
    refine do_ rfl (.tuple #[(.agg #[(.bool (getT (gmM l0 n) (writeP q).key).isSome), (.slice a173 ((getT (gmM l0 n) (writeP q).key).getD []).length c174)]), (.int .i64 0)]) (ex_move _) ?_
    simp only [pS, pN, pA, pC, pZ]
    refine do_ rfl (.agg #[(.bool (getT (gmM l0 n) (writeP q).key).isSome), (.slice a173 ((getT (gmM l0 n) (writeP q).key).getD []).length c174)]) (ex_extract rfl rfl) ?_
    simp only [pS, pN, pA, pC, pZ]
    refine do_ rfl (.int .i64 0) (ex_extract rfl rfl) ?_
    simp only [pS, pN, pA, pC, pZ]
    refine stNew S168 (v := fun n => .pointer (some ⟨n, 0, none⟩)) rfl (ex_alloc (zero_38 _)) (fun n176 w177 S178 => ?_)
    simp only [pS, pN, pA, pC, pZ]
    have S178 : St W (whole W) w177 F169 [⟨n176, [(.bool false), (.slice none 0 0)], 38⟩, ⟨n161, [(.slice xa152 (writeP q).name.length xc153), (.slice xa154 (writeP q).key.length xc155), (.bool (writeP q).gone), (.slice xa156 (writeP q).value.length xc157)], 27⟩] [mapP n104 (gmM l0 n)] := S178
    refine stStore (i := 0) (v := (.agg #[(.bool (getT (gmM l0 n) (writeP q).key).isSome), (.slice a173 ((getT (gmM l0 n) (writeP q).key).getD []).length c174)])) S178 rfl rfl rfl rfl (size_38) (allc2 rfl rfl) (Nat.le_of_ble_eq_true rfl) (fun w179 S180 => ?_)
    simp only [pS, pN, pA, pC, pZ]
    have S180 : St W (whole W) w179 F169 [⟨n176, [(.bool (getT (gmM l0 n) (writeP q).key).isSome), (.slice a173 ((getT (gmM l0 n) (writeP q).key).getD []).length c174)], 38⟩, ⟨n161, [(.slice xa152 (writeP q).name.length xc153), (.slice xa154 (writeP q).key.length xc155), (.bool (writeP q).gone), (.slice xa156 (writeP q).value.length xc157)], 27⟩] [mapP n104 (gmM l0 n)] := S180
    refine do_ rfl (.int .i64 0) (ex_assign _) ?_
    simp only [pS, pN, pA, pC, pZ]
    refine wl_nil (hK166 _ _ ?_)
    refine wp_seq_k (fun K181 hK181 => region_wl ?_)
    refine do_ rfl (.map (some n104)) (ex_move _) ?_
    simp only [pS, pN, pA, pC, pZ]
    refine do_ rfl (.pointer (some ⟨n161, 1, none⟩)) (ex_field (q := ⟨n161, 1, none⟩) rfl (fa_27_1 _ _)) ?_
    simp only [pS, pN, pA, pC, pZ]
    refine do_ rfl (.slice xa154 (writeP q).key.length xc155) (ex_load rfl (load1 (nagg_25 _) (St.cell S180 (i := 1) rfl rfl))) ?_
    simp only [pS, pN, pA, pC, pZ]
    refine do_ rfl (.string ⟨((writeP q).key).toArray⟩) (ex_convert (v := (.slice xa154 (writeP q).key.length xc155)) rfl (run_string Try.underlying25 Try.underlying5 Try.underlying9 (S180).sat (r159.mono le170))) ?_
    simp only [pS, pN, pA, pC, pZ]
    refine do_ rfl (.tuple #[(.string ⟨((getT (gmM l0 n) ((writeP q).key)).getD []).toArray⟩), (.bool (getT (gmM l0 n) ((writeP q).key)).isSome)]) (ex_look (k := (writeP q).key) S180 Try.underlying24 Try.underlying9 (by kernel_rfl) rfl rfl) ?_
    simp only [pS, pN, pA, pC, pZ]
    refine do_ rfl (.tuple #[(.string ⟨((getT (gmM l0 n) ((writeP q).key)).getD []).toArray⟩), (.bool (getT (gmM l0 n) ((writeP q).key)).isSome)]) (ex_move _) ?_
    simp only [pS, pN, pA, pC, pZ]
    refine do_ rfl (.string ⟨((getT (gmM l0 n) ((writeP q).key)).getD []).toArray⟩) (ex_extract rfl rfl) ?_
    simp only [pS, pN, pA, pC, pZ]
    refine do_ rfl (.bool (getT (gmM l0 n) ((writeP q).key)).isSome) (ex_extract rfl rfl) ?_
    simp only [pS, pN, pA, pC, pZ]
    refine do_ rfl (.string ⟨((getT (gmM l0 n) ((writeP q).key)).getD []).toArray⟩) (ex_assign _) ?_
    simp only [pS, pN, pA, pC, pZ]
    refine do_ rfl (.bool (getT (gmM l0 n) ((writeP q).key)).isSome) (ex_assign _) ?_
    simp only [pS, pN, pA, pC, pZ]
    refine wl_nil (hK181 _ _ ?_)
    refine wp_seq_k (fun K182 hK182 => region_wl ?_)
    refine do_ rfl (.int .i64 0) (ex_move _) ?_
    simp only [pS, pN, pA, pC, pZ]
    refine do_ rfl (.bool false) (ex_neq (b := false) rfl rfl (by decide)) ?_
    simp only [pS, pN, pA, pC, pZ]
    refine do_ rfl (.bool false) (ex_move _) ?_
    simp only [pS, pN, pA, pC, pZ]
    refine do_ rfl (.pointer (some ⟨n176, 0, none⟩)) (ex_field (q := ⟨n176, 0, none⟩) rfl (fa_38_0 _ _)) ?_
    simp only [pS, pN, pA, pC, pZ]
    refine do_ rfl (.bool (getT (gmM l0 n) (writeP q).key).isSome) (ex_load rfl (load1 (nagg_4 _) (St.cell S180 (i := 0) rfl rfl))) ?_
    simp only [pS, pN, pA, pC, pZ]
    refine do_ rfl (.bool (getT (gmM l0 n) ((writeP q).key)).isSome) (ex_move _) ?_
    simp only [pS, pN, pA, pC, pZ]
    refine do_ rfl (.bool false) (ex_neqB Try.underlying4 rfl rfl (bne_self_eq_false _)) ?_
    simp only [pS, pN, pA, pC, pZ]
    refine do_ rfl (.bool false) (ex_pick (b := false) rfl) ?_
    simp only [pS, pN, pA, pC, pZ]
    refine do_ rfl (.bool false) (ex_move _) ?_
    simp only [pS, pN, pA, pC, pZ]
    refine do_ rfl (.pointer (some ⟨n176, 1, none⟩)) (ex_field (q := ⟨n176, 1, none⟩) rfl (fa_38_1 _ _)) ?_
    simp only [pS, pN, pA, pC, pZ]
    refine do_ rfl (.slice a173 ((getT (gmM l0 n) (writeP q).key).getD []).length c174) (ex_load rfl (load1 (nagg_25 _) (St.cell S180 (i := 0) rfl rfl))) ?_
    simp only [pS, pN, pA, pC, pZ]
    refine do_ rfl (.string ⟨((getT (gmM l0 n) (writeP q).key).getD []).toArray⟩) (ex_convert (v := (.slice a173 ((getT (gmM l0 n) (writeP q).key).getD []).length c174)) rfl (run_string Try.underlying25 Try.underlying5 Try.underlying9 (S180).sat r175)) ?_
    simp only [pS, pN, pA, pC, pZ]
    refine do_ rfl (.string ⟨((getT (gmM l0 n) ((writeP q).key)).getD []).toArray⟩) (ex_move _) ?_
    simp only [pS, pN, pA, pC, pZ]
    refine do_ rfl (.bool false) (ex_strop (op := .neq) (l := ((getT (gmM l0 n) (writeP q).key).getD [])) (m := ((getT (gmM l0 n) ((writeP q).key)).getD [])) (b := false) (by simp) rfl rfl (by unfold strB; simp)) ?_
    simp only [pS, pN, pA, pC, pZ]
    refine do_ rfl (.bool false) (ex_pick (b := false) rfl) ?_
    simp only [pS, pN, pA, pC, pZ]
    refine wl_nil (hK182 _ _ ?_)
    refine wp_cond_false rfl ?_
    refine wp_skip ?_
    refine hK128 _ _ ?_
    refine region_wl ?_
    refine do_ rfl (.int .i64 ((j : Nat) : Int)) (ex_move _) ?_
    simp only [pS, pN, pA, pC, pZ]
    refine do_ rfl (.int .i64 (((j + 1) : Nat) : Int)) (ex_add (m := ((j : Nat) : Int)) (n := (1 : Int)) (r := (((j + 1) : Nat) : Int)) rfl rfl (by omega) (by omega) (by omega)) ?_
    simp only [pS, pN, pA, pC, pZ]
    refine do_ rfl (.int .i64 (((j + 1) : Nat) : Int)) (ex_assign _) ?_
    simp only [pS, pN, pA, pC, pZ]
    refine wl_nil ?_
    have S180 := St.drop S180 (L' := []) (.cons _ (.cons _ (List.Sublist.refl _)))
    exact hK125 _ _ _ (by omega) ⟨(j + 1), F169, _, rfl, rfl, rfl, S180, ((le124.trans le149).trans le170), (by omega)⟩
   ·refine do_ rfl (.bool false) (ex_lss (m := ((j : Nat) : Int)) (n := (40 : Int)) (b := false) rfl rfl (decide_eq_false (by omega))) ?_
    simp only [pS, pN, pA, pC, pZ]
    refine do_ rfl (.bool false) (ex_pick (b := true) rfl) ?_
    simp only [pS, pN, pA, pC, pZ]
    refine wl_nil (hK127 _ _ ?_)
    refine wp_cond_false rfl ?_
    refine wp_exit ?_
    refine hK115 _ _ ?_
    refine wp_seq_k (fun K183 hK183 => region_wl ?_)
    refine do_ rfl (.slice pa (gmT l0 n).length pc) (ex_move _) ?_
    simp only [pS, pN, pA, pC, pZ]
    refine do_ rfl (.int .i64 (((gmT l0 n).length : Nat) : Int)) (ex_len Try.underlying23 rfl) ?_
    simp only [pS, pN, pA, pC, pZ]
    refine do_ rfl (.map (some n104)) (ex_move _) ?_
    simp only [pS, pN, pA, pC, pZ]
    refine do_ rfl (.int .i64 (((gmM l0 n).length : Nat) : Int)) (ex_lenM S123 Try.underlying24 rfl) ?_
    simp only [pS, pN, pA, pC, pZ]
    refine do_ rfl (.bool true) (ex_eql (m := (((gmT l0 n).length : Nat) : Int)) (n := (((gmM l0 n).length : Nat) : Int)) (b := true) rfl rfl (beq_iff_eq.2 (by rw [gm_len (by omega)]))) ?_
    simp only [pS, pN, pA, pC, pZ]
    refine do_ rfl (.bool true) (ex_move _) ?_
    simp only [pS, pN, pA, pC, pZ]
    refine do_ rfl (.agg #[(.slice none 0 0), (.slice none 0 0)]) (ex_build (ps := #[]) (bmap0) (by kernel_rfl)) ?_
    simp only [pS, pN, pA, pC, pZ]
    refine stNew S123 (v := fun n => .slice (some ⟨n, 0, none⟩) 1 1) rfl (ex_lit (ps := #[(0, (.agg #[(.slice none 0 0), (.slice none 0 0)]))]) (cells := #[(.slice none 0 0), (.slice none 0 0)]) (E := 36) (bmap1 rfl) (fun w => by kernel_rfl)) (fun n184 w185 S186 => ?_)
    simp only [pS, pN, pA, pC, pZ]
    have S186 : St W (whole W) w185 F117 [⟨n184, [(.slice none 0 0), (.slice none 0 0)], 36⟩] [mapP n104 (gmM l0 n)] := S186
    obtain ⟨S187, le188, hc189⟩ := St.freezeBlk S186 (i := 0) rfl
    have r191 : Prs _ (.slice (some ⟨n184, 0, none⟩) 1 1) [(([], []) : Pr)] := sl_of_block (R := PrC) (l := [(([], []) : Pr)]) (el := [[(.slice none 0 0), (.slice none 0 0)]]) hc189 rfl ⟨⟨_, _, rfl, Bs.nil _, Bs.nil _⟩, trivial⟩ (by simp) (by unfold maxLen; simp)
    generalize addF F117 w185 n184 = F190 at *
    have S187 : St W (whole W) w185 F190 [] [mapP n104 (gmM l0 n)] := S187
    refine stTells (v := (.int .i64 1)) S187 rfl (ex_fn (vs := #[(.slice (some ⟨n184, 0, none⟩) 1 1)]) (map1 rfl) rfl (ent_10 _ _)) (treeCheck_spec _ _ _ [(([], []) : Pr)] (S187).sat r191) (fun w192 S193 => ?_)
    simp only [pS, pN, pA, pC, pZ]
    refine do_ rfl (.bool true) (ex_eql (m := (1 : Int)) (n := (1 : Int)) (b := true) rfl rfl (beq_iff_eq.2 (by rfl))) ?_
    simp only [pS, pN, pA, pC, pZ]
    refine do_ rfl (.bool true) (ex_pick (b := true) rfl) ?_
    simp only [pS, pN, pA, pC, pZ]
    refine do_ rfl (.bool true) (ex_assign _) ?_
    simp only [pS, pN, pA, pC, pZ]
    refine wl_nil (hK183 _ _ ?_)
    refine wp_ret ?_
    (try simp only [Exit.then, Exit.inBlock, ↓reduceIte, Nat.reduceEqDiff])
    refine bodyPost_ret (v := (.bool true)) ?_ rfl ?_
    ·exact res_t rfl rfl
    ·exact ⟨rfl, S193.gr.below⟩
  ·refine do_ rfl (.bool false) (ex_lss (m := ((j : Nat) : Int)) (n := ((l0.length : Nat) : Int)) (b := false) rfl rfl (decide_eq_false (by omega))) ?_
   simp only [pS, pN, pA, pC, pZ]
   refine do_ rfl (.bool false) (ex_move _) ?_
   simp only [pS, pN, pA, pC, pZ]
   refine doN (wanted_no rfl rfl rfl (c := false) rfl (by decide)) ?_
   simp only [pS, pN, pA, pC, pZ]
   refine doN (wanted_no rfl rfl rfl (c := false) rfl (by decide)) ?_
   simp only [pS, pN, pA, pC, pZ]
   refine do_ rfl (.bool false) (ex_pick (b := false) rfl) ?_
   simp only [pS, pN, pA, pC, pZ]
   refine wl_nil (hK127 _ _ ?_)
   refine wp_cond_false rfl ?_
   refine wp_exit ?_
   refine hK115 _ _ ?_
   refine wp_seq_k (fun K194 hK194 => region_wl ?_)
   refine do_ rfl (.slice pa (gmT l0 n).length pc) (ex_move _) ?_
   simp only [pS, pN, pA, pC, pZ]
   refine do_ rfl (.int .i64 (((gmT l0 n).length : Nat) : Int)) (ex_len Try.underlying23 rfl) ?_
   simp only [pS, pN, pA, pC, pZ]
   refine do_ rfl (.map (some n104)) (ex_move _) ?_
   simp only [pS, pN, pA, pC, pZ]
   refine do_ rfl (.int .i64 (((gmM l0 n).length : Nat) : Int)) (ex_lenM S123 Try.underlying24 rfl) ?_
   simp only [pS, pN, pA, pC, pZ]
   refine do_ rfl (.bool true) (ex_eql (m := (((gmT l0 n).length : Nat) : Int)) (n := (((gmM l0 n).length : Nat) : Int)) (b := true) rfl rfl (beq_iff_eq.2 (by rw [gm_len (by omega)]))) ?_
   simp only [pS, pN, pA, pC, pZ]
   refine do_ rfl (.bool true) (ex_move _) ?_
   simp only [pS, pN, pA, pC, pZ]
   refine do_ rfl (.agg #[(.slice none 0 0), (.slice none 0 0)]) (ex_build (ps := #[]) (bmap0) (by kernel_rfl)) ?_
   simp only [pS, pN, pA, pC, pZ]
   refine stNew S123 (v := fun n => .slice (some ⟨n, 0, none⟩) 1 1) rfl (ex_lit (ps := #[(0, (.agg #[(.slice none 0 0), (.slice none 0 0)]))]) (cells := #[(.slice none 0 0), (.slice none 0 0)]) (E := 36) (bmap1 rfl) (fun w => by kernel_rfl)) (fun n195 w196 S197 => ?_)
   simp only [pS, pN, pA, pC, pZ]
   have S197 : St W (whole W) w196 F117 [⟨n195, [(.slice none 0 0), (.slice none 0 0)], 36⟩] [mapP n104 (gmM l0 n)] := S197
   obtain ⟨S198, le199, hc200⟩ := St.freezeBlk S197 (i := 0) rfl
   have r202 : Prs _ (.slice (some ⟨n195, 0, none⟩) 1 1) [(([], []) : Pr)] := sl_of_block (R := PrC) (l := [(([], []) : Pr)]) (el := [[(.slice none 0 0), (.slice none 0 0)]]) hc200 rfl ⟨⟨_, _, rfl, Bs.nil _, Bs.nil _⟩, trivial⟩ (by simp) (by unfold maxLen; simp)
   generalize addF F117 w196 n195 = F201 at *
   have S198 : St W (whole W) w196 F201 [] [mapP n104 (gmM l0 n)] := S198
   refine stTells (v := (.int .i64 1)) S198 rfl (ex_fn (vs := #[(.slice (some ⟨n195, 0, none⟩) 1 1)]) (map1 rfl) rfl (ent_10 _ _)) (treeCheck_spec _ _ _ [(([], []) : Pr)] (S198).sat r202) (fun w203 S204 => ?_)
   simp only [pS, pN, pA, pC, pZ]
   refine do_ rfl (.bool true) (ex_eql (m := (1 : Int)) (n := (1 : Int)) (b := true) rfl rfl (beq_iff_eq.2 (by rfl))) ?_
   simp only [pS, pN, pA, pC, pZ]
   refine do_ rfl (.bool true) (ex_pick (b := true) rfl) ?_
   simp only [pS, pN, pA, pC, pZ]
   refine do_ rfl (.bool true) (ex_assign _) ?_
   simp only [pS, pN, pA, pC, pZ]
   refine wl_nil (hK194 _ _ ?_)
   refine wp_ret ?_
   (try simp only [Exit.then, Exit.inBlock, ↓reduceIte, Nat.reduceEqDiff])
   refine bodyPost_ret (v := (.bool true)) ?_ rfl ?_
   ·exact res_t rfl rfl
   ·exact ⟨rfl, S204.gr.below⟩
 refine wp_seq_k (fun K205 hK205 => region_wl ?_)
 refine do_ rfl (.int .i64 0) (ex_assign _) ?_
 simp only [pS, pN, pA, pC, pZ]
 refine wl_nil (hK205 _ _ ?_)
 refine wp_block ?_
 refine wp_loop_g (fun mm aa w208 => ∃ (i : Nat) (pa : Option Addr) (pc : Nat) (F206 : Fz) (u207 : Nat → Value), mm = l0.length - i ∧ u207 = slots aa ∧ aa = ⟨#[(.slice a0 l0.length c0), undef, (u207 2), (.slice pa (gmT l0 i).length pc), (.map (some n104)), (.int .i64 ((i : Nat) : Int)), (u207 6), (u207 7), (u207 8), (u207 9), (u207 10), undef, undef, undef, undef, undef, undef, (.map (some n104)), (u207 18), (u207 19), (u207 20), (u207 21), (u207 22), (u207 23), (u207 24), (u207 25), (u207 26), (u207 27), (u207 28), (u207 29), (u207 30), (u207 31), (u207 32), (u207 33), (u207 34), (u207 35), (u207 36), (u207 37), (u207 38), (u207 39), (u207 40), (u207 41), (u207 42), (u207 43), (u207 44), (u207 45), (u207 46), (u207 47), (u207 48), (u207 49), (u207 50), (u207 51), (u207 52), (u207 53), (u207 54), (u207 55), (u207 56), (u207 57), (u207 58), (u207 59), (u207 60), (u207 61), (u207 62), (u207 63), (u207 64), (u207 65), (u207 66), (u207 67), (u207 68), undef, undef, undef, undef, undef, undef, undef, undef, undef, undef, undef, undef, undef, undef, undef, undef, undef, undef, undef, undef, undef, undef, undef, undef, undef, undef, undef, undef, undef, undef, undef, undef, undef, undef, undef, undef, undef, undef, undef, undef, undef, undef, undef, undef, undef, undef, undef, undef, undef, undef, undef, undef, undef, undef, undef, undef], []⟩ ∧ St W (whole W) w208 F206 [] [mapP n104 (gmM l0 i)] ∧ Le (whole W) F206 ∧ (i ≤ l0.length) ∧ (i ≤ 40) ∧ (Prs F206 (.slice pa (gmT l0 i).length pc) (gmT l0 i))) _ ⟨0, none, 0, (whole W), _, rfl, rfl, rfl, S106, Le.refl _, (by omega), (by omega), (Sl.nil _ _ _)⟩ ?_
 rintro m209 a210 w211 ⟨i, pa, pc, F206, u207, rfl, -, rfl, S212, le213, hi, him, hps⟩ K214 hK214
 refine wp_seq_k (fun K215 hK215 => ?_)
 refine wp_seq_k (fun K216 hK216 => region_wl ?_)
 refine do_ rfl (.int .i64 ((i : Nat) : Int)) (ex_move _) ?_
 simp only [pS, pN, pA, pC, pZ]
 refine do_ rfl (.slice a0 l0.length c0) (ex_move _) ?_
 simp only [pS, pN, pA, pC, pZ]
 refine do_ rfl (.int .i64 ((l0.length : Nat) : Int)) (ex_len Try.underlying22 rfl) ?_
 simp only [pS, pN, pA, pC, pZ]
 by_cases hc21 : i < l0.length
 ·refine do_ rfl (.bool true) (ex_lss (m := ((i : Nat) : Int)) (n := ((l0.length : Nat) : Int)) (b := true) rfl rfl (decide_eq_true (by omega))) ?_
  simp only [pS, pN, pA, pC, pZ]
  refine do_ rfl (.bool true) (ex_move _) ?_
  simp only [pS, pN, pA, pC, pZ]
  refine do_ rfl (.int .i64 ((i : Nat) : Int)) (ex_move _) ?_
  simp only [pS, pN, pA, pC, pZ]
  by_cases hc24 : i < 40
  ·refine do_ rfl (.bool true) (ex_lss (m := ((i : Nat) : Int)) (n := (40 : Int)) (b := true) rfl rfl (decide_eq_true (by omega))) ?_
   simp only [pS, pN, pA, pC, pZ]
   refine do_ rfl (.bool true) (ex_pick (b := true) rfl) ?_
   simp only [pS, pN, pA, pC, pZ]
   refine wl_nil (hK216 _ _ ?_)
   refine wp_cond_true rfl ?_
   refine wp_skip ?_
   refine hK215 _ _ ?_
   refine wp_seq_k (fun K217 hK217 => ?_)
   refine wp_block ?_
   refine wp_seq_k (fun K218 hK218 => ?_)
   obtain ⟨p, hp⟩ : ∃ p, l0[i]? = some p := ⟨l0[i]'(by omega), List.getElem?_eq_getElem (by omega)⟩
   have hok_p := writeP_ok p
   obtain ⟨b219, o220, ha221, xa223, xc224, xa227, xc228, xa231, xc232, c222, c226, c230, c234, r225, r229, r233⟩ := Pls.get (z0.mono le213) hp
   refine region_wl ?_
   refine do_ rfl (.slice a0 l0.length c0) (ex_move _) ?_
   simp only [pS, pN, pA, pC, pZ]
   refine do_ rfl (.int .i64 ((i : Nat) : Int)) (ex_move _) ?_
   simp only [pS, pN, pA, pC, pZ]
   refine do_ rfl (.pointer (some ⟨b219, o220 + i * 4, none⟩)) (ex_at (i := i) (sz := 4) Try.underlying22 (sizeof_30 _) rfl ha221 rfl (by omega) rfl) ?_
   simp only [pS, pN, pA, pC, pZ]
   refine do_ rfl (.agg #[(.slice xa223 p.name.length xc224), (.slice xa227 p.key.length xc228), (.slice xa231 p.value.length xc232), (.bool p.gone)]) (ex_load rfl (loadN (cs := [(.slice xa223 p.name.length xc224), (.slice xa227 p.key.length xc228), (.slice xa231 p.value.length xc232), (.bool p.gone)]) Try.underlying30 rfl (size_30) (range4 (St.fz S212 c222) (St.fz S212 c226) (St.fz S212 c230) (St.fz S212 c234)))) ?_
   simp only [pS, pN, pA, pC, pZ]
   refine stGives S212 rfl (ex_fn (vs := #[(.agg #[(.slice xa223 p.name.length xc224), (.slice xa227 p.key.length xc228), (.slice xa231 p.value.length xc232), (.bool p.gone)])]) (map1 rfl) rfl (ent_6 _ _)) (keepWrite_spec _ _ _ p (S212).sat ⟨_, _, _, _, _, _, rfl, r225, r229, r233⟩) ?_
   intro v240 w235 F237 S236 le238 R239
   obtain ⟨xa241, xc242, xa243, xc244, xa245, xc246, rfl, r247, r248, r249⟩ := R239
   simp only [pS, pN, pA, pC, pZ]
   refine stNew S236 (v := fun n => .pointer (some ⟨n, 0, none⟩)) rfl (ex_alloc (zero_27 _)) (fun n250 w251 S252 => ?_)
   simp only [pS, pN, pA, pC, pZ]
   have S252 : St W (whole W) w251 F237 [⟨n250, [(.slice none 0 0), (.slice none 0 0), (.bool false), (.slice none 0 0)], 27⟩] [mapP n104 (gmM l0 i)] := S252
   refine stStore (i := 0) (v := (.agg #[(.slice xa241 (writeP p).name.length xc242), (.slice xa243 (writeP p).key.length xc244), (.bool (writeP p).gone), (.slice xa245 (writeP p).value.length xc246)])) S252 rfl rfl rfl rfl (size_27) (allc4 rfl rfl rfl rfl) (Nat.le_of_ble_eq_true rfl) (fun w253 S254 => ?_)
   simp only [pS, pN, pA, pC, pZ]
   have S254 : St W (whole W) w253 F237 [⟨n250, [(.slice xa241 (writeP p).name.length xc242), (.slice xa243 (writeP p).key.length xc244), (.bool (writeP p).gone), (.slice xa245 (writeP p).value.length xc246)], 27⟩] [mapP n104 (gmM l0 i)] := S254
   refine wl_nil (hK218 _ _ ?_)
   refine wp_seq_k (fun K255 hK255 => ?_)
   refine wp_seq_k (fun K256 hK256 => region_wl ?_)
   refine do_ rfl (.pointer (some ⟨n250, 2, none⟩)) (ex_field (q := ⟨n250, 2, none⟩) rfl (fa_27_2 _ _)) ?_
   simp only [pS, pN, pA, pC, pZ]
   refine do_ rfl (.bool (writeP p).gone) (ex_load rfl (load1 (nagg_4 _) (St.cell S254 (i := 0) rfl rfl))) ?_
   simp only [pS, pN, pA, pC, pZ]
   refine wl_nil (hK256 _ _ ?_)
   refine wp_cond_split rfl (fun hc257 => ?_) (fun hc257 => ?_)
   ·refine wp_seq_k (fun K258 hK258 => region_wl ?_)
    refine do_ rfl (.slice pa (gmT l0 i).length pc) (ex_move _) ?_
    simp only [pS, pN, pA, pC, pZ]
    refine do_ rfl (.pointer (some ⟨n250, 1, none⟩)) (ex_field (q := ⟨n250, 1, none⟩) rfl (fa_27_1 _ _)) ?_
    simp only [pS, pN, pA, pC, pZ]
    refine do_ rfl (.slice xa243 (writeP p).key.length xc244) (ex_load rfl (load1 (nagg_25 _) (St.cell S254 (i := 0) rfl rfl))) ?_
    simp only [pS, pN, pA, pC, pZ]
    refine stGives S254 rfl (ex_fn (vs := #[(.slice pa (gmT l0 i).length pc), (.slice xa243 (writeP p).key.length xc244)]) (map2 rfl rfl) rfl (ent_7 _ _)) (delOk_spec _ _ _ _ (gmT l0 i) ((writeP p).key) (S254).sat (hps.mono le238) r248 ((gm_ok l0 i (by omega)).tree.mono (by omega)) ⟨WrOk.key1 hok_p, WrOk.key2 hok_p⟩) ?_
    intro v264 w259 F261 S260 le262 R263
    obtain ⟨_, rfl, r267⟩ := R263
    obtain ⟨a265, c266, rfl, h268, h269⟩ := Sl.shape r267
    unfold maxLen at h269
    have h268 : (delT (gmT l0 i) ((writeP p).key)).length ≤ c266 := h268
    have r267 : Prs _ (.slice a265 (delT (gmT l0 i) ((writeP p).key)).length c266) (delT (gmT l0 i) ((writeP p).key)) := r267
    simp only [pS, pN, pA, pC, pZ]
    refine do_ rfl (.tuple #[(.slice a265 (delT (gmT l0 i) ((writeP p).key)).length c266), (.int .i64 0)]) (ex_move _) ?_
    simp only [pS, pN, pA, pC, pZ]
    refine do_ rfl (.slice a265 (delT (gmT l0 i) ((writeP p).key)).length c266) (ex_extract rfl rfl) ?_
    simp only [pS, pN, pA, pC, pZ]
    refine do_ rfl (.int .i64 0) (ex_extract rfl rfl) ?_
    simp only [pS, pN, pA, pC, pZ]
    refine do_ rfl (.slice a265 (delT (gmT l0 i) ((writeP p).key)).length c266) (ex_assign _) ?_
    simp only [pS, pN, pA, pC, pZ]
    refine do_ rfl (.int .i64 0) (ex_assign _) ?_
    simp only [pS, pN, pA, pC, pZ]
    refine wl_nil (hK258 _ _ ?_)
    refine wp_seq_k (fun K270 hK270 => ?_)
    refine wp_seq_k (fun K271 hK271 => region_wl ?_)
    refine do_ rfl (.int .i64 0) (ex_move _) ?_
    simp only [pS, pN, pA, pC, pZ]
    refine do_ rfl (.bool false) (ex_neq (b := false) rfl rfl (by decide)) ?_
    simp only [pS, pN, pA, pC, pZ]
    refine wl_nil (hK271 _ _ ?_)
    refine wp_cond_false rfl ?_
    refine wp_skip ?_
    refine hK270 _ _ ?_
    refine wp_seq_k (fun K272 hK272 => region_wl ?_)
    refine do_ rfl (.slice a265 (delT (gmT l0 i) ((writeP p).key)).length c266) (ex_move _) ?_
    simp only [pS, pN, pA, pC, pZ]
    refine do_ rfl (.slice a265 (delT (gmT l0 i) ((writeP p).key)).length c266) (ex_assign _) ?_
    simp only [pS, pN, pA, pC, pZ]
    refine wl_nil (hK272 _ _ ?_)
    refine wp_seq_k (fun K273 hK273 => region_wl ?_)
    refine do_ rfl (.map (some n104)) (ex_move _) ?_
    simp only [pS, pN, pA, pC, pZ]
    refine do_ rfl (.pointer (some ⟨n250, 1, none⟩)) (ex_field (q := ⟨n250, 1, none⟩) rfl (fa_27_1 _ _)) ?_
    simp only [pS, pN, pA, pC, pZ]
    refine do_ rfl (.slice xa243 (writeP p).key.length xc244) (ex_load rfl (load1 (nagg_25 _) (St.cell S260 (i := 0) rfl rfl))) ?_
    simp only [pS, pN, pA, pC, pZ]
    refine do_ rfl (.string ⟨((writeP p).key).toArray⟩) (ex_convert (v := (.slice xa243 (writeP p).key.length xc244)) rfl (run_string Try.underlying25 Try.underlying5 Try.underlying9 (S260).sat (r248.mono le262))) ?_
    simp only [pS, pN, pA, pC, pZ]
    refine stMapDel (k := (writeP p).key) S260 rfl Try.underlying24 Try.underlying9 rfl rfl (fun w274 S275 => ?_)
    simp only [pS, pN, pA, pC, pZ]
    have S275 : St W (whole W) w274 F261 [⟨n250, [(.slice xa241 (writeP p).name.length xc242), (.slice xa243 (writeP p).key.length xc244), (.bool (writeP p).gone), (.slice xa245 (writeP p).value.length xc246)], 27⟩] [mapP n104 (delM (gmM l0 i) ((writeP p).key))] := S275
    refine wl_nil (hK273 _ _ ?_)
    refine wp_exit ?_
    refine hK217 _ _ ?_
    refine region_wl ?_
    refine do_ rfl (.int .i64 ((i : Nat) : Int)) (ex_move _) ?_
    simp only [pS, pN, pA, pC, pZ]
    refine do_ rfl (.int .i64 (((i + 1) : Nat) : Int)) (ex_add (m := ((i : Nat) : Int)) (n := (1 : Int)) (r := (((i + 1) : Nat) : Int)) rfl rfl (by omega) (by omega) (by omega)) ?_
    simp only [pS, pN, pA, pC, pZ]
    refine do_ rfl (.int .i64 (((i + 1) : Nat) : Int)) (ex_assign _) ?_
    simp only [pS, pN, pA, pC, pZ]
    refine wl_nil ?_
    have S275 := St.drop S275 (L' := []) (.cons _ (List.Sublist.refl _))
    have he1 : (gmT l0 (i + 1)) = (delT (gmT l0 i) ((writeP p).key)) := by rw [gmT_succ hp]; unfold nextT; rw [if_pos (by simpa using hc257)]
    have he2 : (gmM l0 (i + 1)) = (delM (gmM l0 i) ((writeP p).key)) := by rw [gmM_succ hp, if_pos (by simpa using hc257)]
    rw [← he1] at r267 ⊢
    rw [← he2] at S275
    exact hK214 _ _ _ (by omega) ⟨(i + 1), a265, c266, F261, _, rfl, rfl, rfl, S275, ((le213.trans le238).trans le262), (by omega), (by omega), r267⟩
   ·refine wp_skip ?_
    refine hK255 _ _ ?_
    refine wp_seq_k (fun K276 hK276 => region_wl ?_)
    refine do_ rfl (.slice pa (gmT l0 i).length pc) (ex_move _) ?_
    simp only [pS, pN, pA, pC, pZ]
    refine do_ rfl (.pointer (some ⟨n250, 1, none⟩)) (ex_field (q := ⟨n250, 1, none⟩) rfl (fa_27_1 _ _)) ?_
    simp only [pS, pN, pA, pC, pZ]
    refine do_ rfl (.slice xa243 (writeP p).key.length xc244) (ex_load rfl (load1 (nagg_25 _) (St.cell S254 (i := 0) rfl rfl))) ?_
    simp only [pS, pN, pA, pC, pZ]
    refine do_ rfl (.pointer (some ⟨n250, 3, none⟩)) (ex_field (q := ⟨n250, 3, none⟩) rfl (fa_27_3 _ _)) ?_
    simp only [pS, pN, pA, pC, pZ]
    refine do_ rfl (.slice xa245 (writeP p).value.length xc246) (ex_load rfl (load1 (nagg_25 _) (St.cell S254 (i := 0) rfl rfl))) ?_
    simp only [pS, pN, pA, pC, pZ]
    refine do_ rfl (.agg #[(.slice xa243 (writeP p).key.length xc244), (.slice xa245 (writeP p).value.length xc246)]) (ex_build (ps := #[(0, (.slice xa243 (writeP p).key.length xc244)), (1, (.slice xa245 (writeP p).value.length xc246))]) (bmap2 rfl rfl) (by kernel_rfl)) ?_
    simp only [pS, pN, pA, pC, pZ]
    refine stGives S254 rfl (ex_fn (vs := #[(.slice pa (gmT l0 i).length pc), (.agg #[(.slice xa243 (writeP p).key.length xc244), (.slice xa245 (writeP p).value.length xc246)])]) (map2 rfl rfl) rfl (ent_8 _ _)) (putOk_spec _ _ _ _ (gmT l0 i) ((writeP p).key, (writeP p).value) (S254).sat (hps.mono le238) ⟨_, _, _, _, rfl, r248, r249⟩ (gm_ok l0 i (by omega)).tree (by omega) ⟨WrOk.key1 hok_p, WrOk.key2 hok_p, hok_p.value⟩) ?_
    intro v282 w277 F279 S278 le280 R281
    obtain ⟨_, rfl, r285⟩ := R281
    obtain ⟨a283, c284, rfl, h286, h287⟩ := Sl.shape r285
    unfold maxLen at h287
    have h286 : (putT (gmT l0 i) ((writeP p).key) ((writeP p).value)).length ≤ c284 := h286
    have r285 : Prs _ (.slice a283 (putT (gmT l0 i) ((writeP p).key) ((writeP p).value)).length c284) (putT (gmT l0 i) ((writeP p).key) ((writeP p).value)) := r285
    simp only [pS, pN, pA, pC, pZ]
    refine do_ rfl (.tuple #[(.slice a283 (putT (gmT l0 i) ((writeP p).key) ((writeP p).value)).length c284), (.int .i64 0)]) (ex_move _) ?_
    simp only [pS, pN, pA, pC, pZ]
    refine do_ rfl (.slice a283 (putT (gmT l0 i) ((writeP p).key) ((writeP p).value)).length c284) (ex_extract rfl rfl) ?_
    simp only [pS, pN, pA, pC, pZ]
    refine do_ rfl (.int .i64 0) (ex_extract rfl rfl) ?_
    simp only [pS, pN, pA, pC, pZ]
    refine do_ rfl (.slice a283 (putT (gmT l0 i) ((writeP p).key) ((writeP p).value)).length c284) (ex_assign _) ?_
    simp only [pS, pN, pA, pC, pZ]
    refine do_ rfl (.int .i64 0) (ex_assign _) ?_
    simp only [pS, pN, pA, pC, pZ]
    refine wl_nil (hK276 _ _ ?_)
    refine wp_seq_k (fun K288 hK288 => ?_)
    refine wp_seq_k (fun K289 hK289 => region_wl ?_)
    refine do_ rfl (.int .i64 0) (ex_move _) ?_
    simp only [pS, pN, pA, pC, pZ]
    refine do_ rfl (.bool false) (ex_neq (b := false) rfl rfl (by decide)) ?_
    simp only [pS, pN, pA, pC, pZ]
    refine wl_nil (hK289 _ _ ?_)
    refine wp_cond_false rfl ?_
    refine wp_skip ?_
    refine hK288 _ _ ?_
    refine wp_seq_k (fun K290 hK290 => region_wl ?_)
    refine do_ rfl (.slice a283 (putT (gmT l0 i) ((writeP p).key) ((writeP p).value)).length c284) (ex_move _) ?_
    simp only [pS, pN, pA, pC, pZ]
    refine do_ rfl (.slice a283 (putT (gmT l0 i) ((writeP p).key) ((writeP p).value)).length c284) (ex_assign _) ?_
    simp only [pS, pN, pA, pC, pZ]
    refine wl_nil (hK290 _ _ ?_)
    refine region_wl ?_
    refine do_ rfl (.map (some n104)) (ex_move _) ?_
    simp only [pS, pN, pA, pC, pZ]
    refine do_ rfl (.pointer (some ⟨n250, 1, none⟩)) (ex_field (q := ⟨n250, 1, none⟩) rfl (fa_27_1 _ _)) ?_
    simp only [pS, pN, pA, pC, pZ]
    refine do_ rfl (.slice xa243 (writeP p).key.length xc244) (ex_load rfl (load1 (nagg_25 _) (St.cell S278 (i := 0) rfl rfl))) ?_
    simp only [pS, pN, pA, pC, pZ]
    refine do_ rfl (.string ⟨((writeP p).key).toArray⟩) (ex_convert (v := (.slice xa243 (writeP p).key.length xc244)) rfl (run_string Try.underlying25 Try.underlying5 Try.underlying9 (S278).sat (r248.mono le280))) ?_
    simp only [pS, pN, pA, pC, pZ]
    refine do_ rfl (.pointer (some ⟨n250, 3, none⟩)) (ex_field (q := ⟨n250, 3, none⟩) rfl (fa_27_3 _ _)) ?_
    simp only [pS, pN, pA, pC, pZ]
    refine do_ rfl (.slice xa245 (writeP p).value.length xc246) (ex_load rfl (load1 (nagg_25 _) (St.cell S278 (i := 0) rfl rfl))) ?_
    simp only [pS, pN, pA, pC, pZ]
    refine do_ rfl (.string ⟨((writeP p).value).toArray⟩) (ex_convert (v := (.slice xa245 (writeP p).value.length xc246)) rfl (run_string Try.underlying25 Try.underlying5 Try.underlying9 (S278).sat (r249.mono le280))) ?_
    simp only [pS, pN, pA, pC, pZ]
    refine stMapUpd (k := (writeP p).key) (v := (writeP p).value) S278 rfl Try.underlying24 Try.underlying9 rfl rfl rfl (fun w291 S292 => ?_)
    simp only [pS, pN, pA, pC, pZ]
    have S292 : St W (whole W) w291 F279 [⟨n250, [(.slice xa241 (writeP p).name.length xc242), (.slice xa243 (writeP p).key.length xc244), (.bool (writeP p).gone), (.slice xa245 (writeP p).value.length xc246)], 27⟩] [mapP n104 (putM (gmM l0 i) ((writeP p).key) ((writeP p).value))] := S292
    refine wl_nil (hK217 _ _ ?_)
    refine region_wl ?_
    refine do_ rfl (.int .i64 ((i : Nat) : Int)) (ex_move _) ?_
    simp only [pS, pN, pA, pC, pZ]
    refine do_ rfl (.int .i64 (((i + 1) : Nat) : Int)) (ex_add (m := ((i : Nat) : Int)) (n := (1 : Int)) (r := (((i + 1) : Nat) : Int)) rfl rfl (by omega) (by omega) (by omega)) ?_
    simp only [pS, pN, pA, pC, pZ]
    refine do_ rfl (.int .i64 (((i + 1) : Nat) : Int)) (ex_assign _) ?_
    simp only [pS, pN, pA, pC, pZ]
    refine wl_nil ?_
    have S292 := St.drop S292 (L' := []) (.cons _ (List.Sublist.refl _))
    have he1 : (gmT l0 (i + 1)) = (putT (gmT l0 i) ((writeP p).key) ((writeP p).value)) := by rw [gmT_succ hp]; unfold nextT; rw [if_neg (by simpa using hc257)]
    have he2 : (gmM l0 (i + 1)) = (putM (gmM l0 i) ((writeP p).key) ((writeP p).value)) := by rw [gmM_succ hp, if_neg (by simpa using hc257)]
    rw [← he1] at r285 ⊢
    rw [← he2] at S292
    exact hK214 _ _ _ (by omega) ⟨(i + 1), a283, c284, F279, _, rfl, rfl, rfl, S292, ((le213.trans le238).trans le280), (by omega), (by omega), r285⟩
  ·refine do_ rfl (.bool false) (ex_lss (m := ((i : Nat) : Int)) (n := (40 : Int)) (b := false) rfl rfl (decide_eq_false (by omega))) ?_
   simp only [pS, pN, pA, pC, pZ]
   refine do_ rfl (.bool false) (ex_pick (b := true) rfl) ?_
   simp only [pS, pN, pA, pC, pZ]
   refine wl_nil (hK216 _ _ ?_)
   refine wp_cond_false rfl ?_
   refine wp_exit ?_
   exact hJ114 _ _ ⟨i, pa, pc, F206, _, rfl, rfl, S212, le213, hi, him, (by omega), hps⟩
 ·refine do_ rfl (.bool false) (ex_lss (m := ((i : Nat) : Int)) (n := ((l0.length : Nat) : Int)) (b := false) rfl rfl (decide_eq_false (by omega))) ?_
  simp only [pS, pN, pA, pC, pZ]
  refine do_ rfl (.bool false) (ex_move _) ?_
  simp only [pS, pN, pA, pC, pZ]
  refine doN (wanted_no rfl rfl rfl (c := false) rfl (by decide)) ?_
  simp only [pS, pN, pA, pC, pZ]
  refine doN (wanted_no rfl rfl rfl (c := false) rfl (by decide)) ?_
  simp only [pS, pN, pA, pC, pZ]
  refine do_ rfl (.bool false) (ex_pick (b := false) rfl) ?_
  simp only [pS, pN, pA, pC, pZ]
  refine wl_nil (hK216 _ _ ?_)
  refine wp_cond_false rfl ?_
  refine wp_exit ?_
  exact hJ114 _ _ ⟨i, pa, pc, F206, _, rfl, rfl, S212, le213, hi, him, (by omega), hps⟩
end Go.Proofs.Ytlimmmidfhpakaa
