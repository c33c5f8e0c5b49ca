/- The walk of CommitSize -/
import Derived.Test.YtcpngkkconalhaaT9
namespace Go.Proofs.Ytcpngkkconalhaa
open Go.RowKit
set_option maxRecDepth 100000
set_option linter.unusedVariables false
set_option linter.unusedSimpArgs false
theorem size_step {ws : List Wr} {k : Nat} {p : Wr} (hp : ws[k]? = some p) (hg : p.gone = true → p.value = []) : ((ws.take (k + 1)).flatMap encWr).length = ((ws.take k).flatMap encWr).length + (3 + p.name.length + p.key.length + p.value.length) := by
  rw [take_snoc hp, List.flatMap_append, List.length_append]
  simp [encWr_len hg]
set_option maxHeartbeats 8000000 in
theorem commitSize_walk (W : World) (v0 : Value) (l0 : List Pl) (z0 : Pls (whole W) v0 l0) (x1 : Int) (b1 : -9223372036854775808 ≤ x1) (b1' : x1 ≤ 9223372036854775807) :
    Calls Try.prog 4 #[v0, .int .i64 x1] W (Tells W (.bool true)) := by
 obtain ⟨a0, c0, rfl, q0, q0'⟩ := Sl.shape z0
 have S := St.start (Sat.whole W)
 go_enter Try.func4, Try.ntmps4
 refine wp_seq_k (fun K101 hK101 => region_wl ?_)
 refine do_ rfl (.bool false) (ex_assign _) ?_
 simp only [pS, pN, pA, pC, pZ]
 refine wl_nil (hK101 _ _ ?_)
 refine wp_seq_k (fun K102 hK102 => region_wl ?_)
 refine do_ rfl (.slice a0 l0.length c0) (ex_move _) ?_
 simp only [pS, pN, pA, pC, pZ]
 refine stGives S rfl (ex_fn (vs := #[(.slice a0 l0.length c0), (.int .i64 10)]) (map2 rfl rfl) rfl (ent_24 _ _)) (writes_spec _ _ _ l0 10 (S).sat z0 (by omega)) ?_
 intro v108 w103 F105 S104 le106 R107
 obtain ⟨a109, c110, rfl, h111, h112⟩ := Sl.shape R107
 unfold maxLen at h112
 simp only [pS, pN, pA, pC, pZ]
 refine do_ rfl (.slice a109 (writesN l0 10).length c110) (ex_assign _) ?_
 simp only [pS, pN, pA, pC, pZ]
 refine wl_nil (hK102 _ _ ?_)
 refine wp_seq_k (fun K113 hK113 => ?_)
 have hwl := writesN_len l0 10
 have hwok := writesN_ok l0 10
 refine region_wl ?_
 refine do_ rfl (.int .i64 4) (ex_assign _) ?_
 simp only [pS, pN, pA, pC, pZ]
 refine wl_nil (hK113 _ _ ?_)
 refine wp_seq_k (fun K114 hK114 => ?_)
 refine wp_seq_k (fun K115 hK115 => region_wl ?_)
 refine do_ rfl (.int .i64 0) (ex_assign _) ?_
 simp only [pS, pN, pA, pC, pZ]
 refine wl_nil (hK115 _ _ ?_)
 refine wp_block ?_
 refine wp_loop_g (fun mm aa w118 => ∃ (k : Nat) (n : Nat) (F116 : Fz) (u117 : Nat → Value), mm = (writesN l0 10).length - k ∧ u117 = slots aa ∧ aa = ⟨#[(.slice a0 l0.length c0), (.int .i64 x1), undef, undef, (.bool false), (.slice a109 (writesN l0 10).length c110), (.int .i64 ((n : Nat) : Int)), (.int .i64 ((k : Nat) : Int)), undef, undef, undef, (.slice a0 l0.length c0), (.slice a109 (writesN l0 10).length c110), (u117 13), (u117 14), (u117 15), (u117 16), (u117 17), (u117 18), (u117 19), (u117 20), (u117 21), (u117 22), (u117 23), (u117 24), (u117 25), (u117 26), (u117 27), (u117 28), (u117 29), (u117 30), (u117 31), (u117 32), (u117 33), (u117 34), (u117 35), (u117 36), (u117 37), (u117 38), (u117 39), (u117 40), (u117 41), undef, undef, undef, undef, undef, undef, undef, undef, undef, undef, undef, undef, undef, undef, undef, undef, undef, undef, undef, undef, undef, undef, undef, undef, undef, undef, undef, undef, undef, undef, undef, undef, undef, undef, undef, undef, undef, undef, undef, undef, undef, undef, undef, undef, undef, undef, undef, undef, undef, undef, undef, undef], []⟩ ∧ St W (whole W) w118 F116 [] [] ∧ Le F105 F116 ∧ (k ≤ (writesN l0 10).length) ∧ (n = 4 + (((writesN l0 10).take k).flatMap encWr).length)) _ ⟨0, 4, F105, _, rfl, rfl, rfl, S104, Le.refl _, (by omega), (by simp)⟩ ?_
 rintro m119 a120 w121 ⟨k, n, F116, u117, rfl, -, rfl, S122, le123, hk, hn⟩ K124 hK124
 refine wp_seq_k (fun K125 hK125 => ?_)
 refine wp_seq_k (fun K126 hK126 => region_wl ?_)
 refine do_ rfl (.int .i64 ((k : Nat) : Int)) (ex_move _) ?_
 simp only [pS, pN, pA, pC, pZ]
 refine do_ rfl (.slice a109 (writesN l0 10).length c110) (ex_move _) ?_
 simp only [pS, pN, pA, pC, pZ]
 refine do_ rfl (.int .i64 (((writesN l0 10).length : Nat) : Int)) (ex_len Try.underlying44 rfl) ?_
 simp only [pS, pN, pA, pC, pZ]
 by_cases hc16 : k < (writesN l0 10).length
 ·refine do_ rfl (.bool true) (ex_lss (m := ((k : Nat) : Int)) (n := (((writesN l0 10).length : Nat) : Int)) (b := true) rfl rfl (decide_eq_true (by omega))) ?_
  simp only [pS, pN, pA, pC, pZ]
  refine wl_nil (hK126 _ _ ?_)
  refine wp_cond_true rfl ?_
  refine wp_skip ?_
  refine hK125 _ _ ?_
  refine wp_seq_k (fun K127 hK127 => ?_)
  refine wp_block ?_
  obtain ⟨p, hp⟩ : ∃ p, (writesN l0 10)[k]? = some p := ⟨(writesN l0 10)[k], List.getElem?_eq_getElem hc16⟩
  have hpo := hwok p (List.mem_of_getElem? hp)
  have hp1 := hpo.name.2
  have hp2 := hpo.key2
  have hp3 := hpo.value
  have hfl := enc_len (ws := (writesN l0 10).take k) (fun x hx => hwok x (List.mem_of_mem_take hx))
  rw [List.length_take] at hfl
  obtain ⟨b128, o129, ha130, xa132, xc133, xa136, xc137, xa141, xc142, c131, c135, c139, c140, r134, r138, r143⟩ := Wrs.get (R107.mono le123) hp
  refine region_gw F116 22 [] (by kernel_rfl) (by kernel_rfl) ?_
  simp only [List.take_succ_cons, List.take_zero]
  refine gw_pure rfl rfl (.int .i64 ((n : Nat) : Int)) (fun w144 hCw144 => pureAt_of (ex_move _)) ?_
  simp only [pS, pN, pA, pC, pZ]
  refine gw_pure rfl rfl (.slice a109 (writesN l0 10).length c110) (fun w144 hCw144 => pureAt_of (ex_move _)) ?_
  simp only [pS, pN, pA, pC, pZ]
  refine gw_pure rfl rfl (.int .i64 ((k : Nat) : Int)) (fun w144 hCw144 => pureAt_of (ex_move _)) ?_
  simp only [pS, pN, pA, pC, pZ]
  refine gw_pure rfl rfl (.pointer (some ⟨b128, o129 + k * 4, none⟩)) (fun w144 hCw144 => pureAt_of (ex_at (i := k) (sz := 4) Try.underlying44 (sizeof_27 _) rfl ha130 rfl (by omega) rfl)) ?_
  simp only [pS, pN, pA, pC, pZ]
  refine gw_pure rfl rfl (.pointer (some ⟨b128, o129 + k * 4, none⟩)) (fun w144 hCw144 => pureAt_of (ex_field (q := ⟨b128, o129 + k * 4, none⟩) rfl (fa_27_0 _ _))) ?_
  simp only [pS, pN, pA, pC, pZ]
  refine gw_pure rfl rfl (.slice xa132 p.name.length xc133) (fun w144 hCw144 => pureAt_of (ex_load rfl (load1 (nagg_25 _) (St.fz (St.tells S122 hCw144) c131)))) ?_
  simp only [pS, pN, pA, pC, pZ]
  refine gw_pure rfl rfl (.int .i64 ((p.name.length : Nat) : Int)) (fun w144 hCw144 => pureAt_of (ex_len Try.underlying25 rfl)) ?_
  simp only [pS, pN, pA, pC, pZ]
  refine gw_pure rfl rfl (.int .i64 (((3 + p.name.length) : Nat) : Int)) (fun w144 hCw144 => pureAt_of (ex_add (m := (3 : Int)) (n := ((p.name.length : Nat) : Int)) (r := (((3 + p.name.length) : Nat) : Int)) rfl rfl (by omega) (by omega) (by omega))) ?_
  simp only [pS, pN, pA, pC, pZ]
  refine gw_pure rfl rfl (.slice a109 (writesN l0 10).length c110) (fun w144 hCw144 => pureAt_of (ex_move _)) ?_
  simp only [pS, pN, pA, pC, pZ]
  refine gw_pure rfl rfl (.int .i64 ((k : Nat) : Int)) (fun w144 hCw144 => pureAt_of (ex_move _)) ?_
  simp only [pS, pN, pA, pC, pZ]
  refine gw_pure rfl rfl (.pointer (some ⟨b128, o129 + k * 4, none⟩)) (fun w144 hCw144 => pureAt_of (ex_at (i := k) (sz := 4) Try.underlying44 (sizeof_27 _) rfl ha130 rfl (by omega) rfl)) ?_
  simp only [pS, pN, pA, pC, pZ]
  refine gw_pure rfl rfl (.pointer (some ⟨b128, o129 + k * 4 + 1, none⟩)) (fun w144 hCw144 => pureAt_of (ex_field (q := ⟨b128, o129 + k * 4 + 1, none⟩) rfl (fa_27_1 _ _))) ?_
  simp only [pS, pN, pA, pC, pZ]
  refine gw_pure rfl rfl (.slice xa136 p.key.length xc137) (fun w144 hCw144 => pureAt_of (ex_load rfl (load1 (nagg_25 _) (St.fz (St.tells S122 hCw144) c135)))) ?_
  simp only [pS, pN, pA, pC, pZ]
  refine gw_pure rfl rfl (.int .i64 ((p.key.length : Nat) : Int)) (fun w144 hCw144 => pureAt_of (ex_len Try.underlying25 rfl)) ?_
  simp only [pS, pN, pA, pC, pZ]
  refine gw_pure rfl rfl (.int .i64 ((((3 + p.name.length) + p.key.length) : Nat) : Int)) (fun w144 hCw144 => pureAt_of (ex_add (m := (((3 + p.name.length) : Nat) : Int)) (n := ((p.key.length : Nat) : Int)) (r := ((((3 + p.name.length) + p.key.length) : Nat) : Int)) rfl rfl (by omega) (by omega) (by omega))) ?_
  simp only [pS, pN, pA, pC, pZ]
  refine gw_pure rfl rfl (.slice a109 (writesN l0 10).length c110) (fun w144 hCw144 => pureAt_of (ex_move _)) ?_
  simp only [pS, pN, pA, pC, pZ]
  refine gw_pure rfl rfl (.int .i64 ((k : Nat) : Int)) (fun w144 hCw144 => pureAt_of (ex_move _)) ?_
  simp only [pS, pN, pA, pC, pZ]
  refine gw_pure rfl rfl (.pointer (some ⟨b128, o129 + k * 4, none⟩)) (fun w144 hCw144 => pureAt_of (ex_at (i := k) (sz := 4) Try.underlying44 (sizeof_27 _) rfl ha130 rfl (by omega) rfl)) ?_
  simp only [pS, pN, pA, pC, pZ]
  refine gw_pure rfl rfl (.pointer (some ⟨b128, o129 + k * 4 + 3, none⟩)) (fun w144 hCw144 => pureAt_of (ex_field (q := ⟨b128, o129 + k * 4 + 3, none⟩) rfl (fa_27_3 _ _))) ?_
  simp only [pS, pN, pA, pC, pZ]
  refine gw_pure rfl rfl (.slice xa141 p.value.length xc142) (fun w144 hCw144 => pureAt_of (ex_load rfl (load1 (nagg_25 _) (St.fz (St.tells S122 hCw144) c140)))) ?_
  simp only [pS, pN, pA, pC, pZ]
  refine gw_pure rfl rfl (.int .i64 ((p.value.length : Nat) : Int)) (fun w144 hCw144 => pureAt_of (ex_len Try.underlying25 rfl)) ?_
  simp only [pS, pN, pA, pC, pZ]
  refine gw_pure rfl rfl (.int .i64 (((((3 + p.name.length) + p.key.length) + p.value.length) : Nat) : Int)) (fun w144 hCw144 => pureAt_of (ex_add (m := ((((3 + p.name.length) + p.key.length) : Nat) : Int)) (n := ((p.value.length : Nat) : Int)) (r := (((((3 + p.name.length) + p.key.length) + p.value.length) : Nat) : Int)) rfl rfl (by omega) (by omega) (by omega))) ?_
  simp only [pS, pN, pA, pC, pZ]
  refine gw_nil ?_
  intro w145 hC147 hF148
  clear hF148
  have S146 := St.tells S122 hC147
  simp only [List.drop_succ_cons, List.drop_zero]
  refine do_ rfl (.int .i64 (((n + (((3 + p.name.length) + p.key.length) + p.value.length)) : Nat) : Int)) (ex_add (m := ((n : Nat) : Int)) (n := (((((3 + p.name.length) + p.key.length) + p.value.length) : Nat) : Int)) (r := (((n + (((3 + p.name.length) + p.key.length) + p.value.length)) : Nat) : Int)) rfl rfl (by omega) (by omega) (by omega)) ?_
  simp only [pS, pN, pA, pC, pZ]
  refine do_ rfl (.int .i64 (((n + (((3 + p.name.length) + p.key.length) + p.value.length)) : Nat) : Int)) (ex_assign _) ?_
  simp only [pS, pN, pA, pC, pZ]
  refine wl_nil (hK127 _ _ ?_)
  refine region_wl ?_
  refine do_ rfl (.int .i64 ((k : Nat) : Int)) (ex_move _) ?_
  simp only [pS, pN, pA, pC, pZ]
  refine do_ rfl (.int .i64 (((k + 1) : Nat) : Int)) (ex_add (m := ((k : Nat) : Int)) (n := (1 : Int)) (r := (((k + 1) : Nat) : Int)) rfl rfl (by omega) (by omega) (by omega)) ?_
  simp only [pS, pN, pA, pC, pZ]
  refine do_ rfl (.int .i64 (((k + 1) : Nat) : Int)) (ex_assign _) ?_
  simp only [pS, pN, pA, pC, pZ]
  refine wl_nil ?_
  exact hK124 _ _ _ (by omega) ⟨(k + 1), (n + (((3 + p.name.length) + p.key.length) + p.value.length)), F116, _, rfl, rfl, rfl, S146, le123, (by omega), (by rw [size_step hp hpo.gone]; omega)⟩
 ·refine do_ rfl (.bool false) (ex_lss (m := ((k : Nat) : Int)) (n := (((writesN l0 10).length : Nat) : Int)) (b := false) rfl rfl (decide_eq_false (by omega))) ?_
  simp only [pS, pN, pA, pC, pZ]
  refine wl_nil (hK126 _ _ ?_)
  refine wp_cond_false rfl ?_
  refine wp_exit ?_
  refine hK114 _ _ ?_
  refine wp_seq_k (fun K149 hK149 => ?_)
  have hend : (writesN l0 10).take k = (writesN l0 10) := List.take_of_length_le (by omega)
  rw [hend] at hn
  obtain ⟨hp0, hp1⟩ := pick_bd x1 1048576 (by omega)
  obtain ⟨kn, hkn⟩ : ∃ kn : Nat, pick x1 1048576 = (kn : Int) := ⟨(pick x1 1048576).toNat, (Int.toNat_of_nonneg hp0).symm⟩
  have hkb : kn < 1048576 := by omega
  refine region_wl ?_
  refine do_ rfl (.int .i64 x1) (ex_move _) ?_
  simp only [pS, pN, pA, pC, pZ]
  refine stTells (v := (.int .i64 ((kn : Nat) : Int))) S122 rfl (ex_fn (vs := #[(.int .i64 x1), (.int .i64 1048576)]) (map2 rfl rfl) rfl (ent_25 _ _)) (hkn ▸ tells_same (picked_spec x1 (1048576 : Int) _ b1 b1' (by omega) (by omega))) (fun w150 S151 => ?_)
  simp only [pS, pN, pA, pC, pZ]
  refine do_ rfl (.int .i64 (((1 + kn) : Nat) : Int)) (ex_add (m := (1 : Int)) (n := ((kn : Nat) : Int)) (r := (((1 + kn) : Nat) : Int)) rfl rfl (by omega) (by omega) (by omega)) ?_
  simp only [pS, pN, pA, pC, pZ]
  refine do_ rfl (.int .i64 (((1 + kn) : Nat) : Int)) (ex_assign _) ?_
  simp only [pS, pN, pA, pC, pZ]
  refine wl_nil (hK149 _ _ ?_)
  refine wp_seq_k (fun K152 hK152 => ?_)
  by_cases hz : (writesN l0 10).length = 0
  ·refine region_wl ?_
   refine do_ rfl (.int .i64 (((1 + kn) : Nat) : Int)) (ex_move _) ?_
   simp only [pS, pN, pA, pC, pZ]
   refine do_ rfl (.slice a109 (writesN l0 10).length c110) (ex_move _) ?_
   simp only [pS, pN, pA, pC, pZ]
   refine do_ rfl (.agg #[(.int .i64 (((1 + kn) : Nat) : Int)), (.slice a109 (writesN l0 10).length c110)]) (ex_build (ps := #[(0, (.int .i64 (((1 + kn) : Nat) : Int))), (1, (.slice a109 (writesN l0 10).length c110))]) (bmap2 rfl rfl) (by kernel_rfl)) ?_
   simp only [pS, pN, pA, pC, pZ]
   refine stGives S151 rfl (ex_fn (vs := #[(.agg #[(.int .i64 (((1 + kn) : Nat) : Int)), (.slice a109 (writesN l0 10).length c110)])]) (map1 rfl) rfl (ent_26 _ _)) (encodeNil_spec _ _ _ (⟨(1 + kn), (writesN l0 10)⟩ : Cm) (S151).sat ⟨_, _, rfl, (R107.mono le123)⟩ ⟨by show 1 ≤ 1 + kn; omega, by show 1 + kn ≤ 1048576; omega⟩ hz) ?_
   intro v158 w153 F155 S154 le156 R157
   obtain ⟨_, rfl, r161⟩ := R157
   obtain ⟨a159, c160, rfl, _⟩ := r161.shape
   simp only [pS, pN, pA, pC, pZ]
   refine do_ rfl (.tuple #[(.slice a159 ([] : By).length c160), (.int .i64 1)]) (ex_move _) ?_
   simp only [pS, pN, pA, pC, pZ]
   refine do_ rfl (.slice a159 ([] : By).length c160) (ex_extract rfl rfl) ?_
   simp only [pS, pN, pA, pC, pZ]
   refine do_ rfl (.int .i64 1) (ex_extract rfl rfl) ?_
   simp only [pS, pN, pA, pC, pZ]
   refine do_ rfl (.slice a159 ([] : By).length c160) (ex_assign _) ?_
   simp only [pS, pN, pA, pC, pZ]
   refine do_ rfl (.int .i64 1) (ex_assign _) ?_
   simp only [pS, pN, pA, pC, pZ]
   refine wl_nil (hK152 _ _ ?_)
   refine wp_seq_k (fun K162 hK162 => ?_)
   refine wp_seq_k (fun K163 hK163 => region_wl ?_)
   refine do_ rfl (.slice a109 (writesN l0 10).length c110) (ex_move _) ?_
   simp only [pS, pN, pA, pC, pZ]
   refine do_ rfl (.int .i64 (((writesN l0 10).length : Nat) : Int)) (ex_len Try.underlying44 rfl) ?_
   simp only [pS, pN, pA, pC, pZ]
   refine do_ rfl (.bool true) (ex_eql (m := (((writesN l0 10).length : Nat) : Int)) (n := (0 : Int)) (b := true) rfl rfl (beq_iff_eq.2 (by omega))) ?_
   simp only [pS, pN, pA, pC, pZ]
   refine wl_nil (hK163 _ _ ?_)
   refine wp_cond_true rfl ?_
   refine wp_seq_k (fun K164 hK164 => region_wl ?_)
   refine do_ rfl (.int .i64 1) (ex_move _) ?_
   simp only [pS, pN, pA, pC, pZ]
   refine do_ rfl (.bool true) (ex_eql (b := true) rfl rfl (by decide)) ?_
   simp only [pS, pN, pA, pC, pZ]
   refine do_ rfl (.bool true) (ex_assign _) ?_
   simp only [pS, pN, pA, pC, pZ]
   refine wl_nil (hK164 _ _ ?_)
   refine wp_ret ?_
   (try simp only [Exit.then, Exit.inBlock, ↓reduceIte, Nat.reduceEqDiff])
   refine bodyPost_ret (v := (.bool true)) ?_ rfl ?_
   ·exact res_t rfl rfl
   ·exact ⟨rfl, S154.gr.below⟩
  ·refine region_wl ?_
   refine do_ rfl (.int .i64 (((1 + kn) : Nat) : Int)) (ex_move _) ?_
   simp only [pS, pN, pA, pC, pZ]
   refine do_ rfl (.slice a109 (writesN l0 10).length c110) (ex_move _) ?_
   simp only [pS, pN, pA, pC, pZ]
   refine do_ rfl (.agg #[(.int .i64 (((1 + kn) : Nat) : Int)), (.slice a109 (writesN l0 10).length c110)]) (ex_build (ps := #[(0, (.int .i64 (((1 + kn) : Nat) : Int))), (1, (.slice a109 (writesN l0 10).length c110))]) (bmap2 rfl rfl) (by kernel_rfl)) ?_
   simp only [pS, pN, pA, pC, pZ]
   refine stGives S151 rfl (ex_fn (vs := #[(.agg #[(.int .i64 (((1 + kn) : Nat) : Int)), (.slice a109 (writesN l0 10).length c110)])]) (map1 rfl) rfl (ent_26 _ _)) (encode_spec _ _ _ (⟨(1 + kn), (writesN l0 10)⟩ : Cm) (S151).sat ⟨_, _, rfl, (R107.mono le123)⟩ ⟨⟨by show 1 ≤ 1 + kn; omega, by show 1 + kn ≤ 1048576; omega⟩, ⟨by show 1 ≤ (writesN l0 10).length; omega, hwl⟩, hwok⟩) ?_
   intro v170 w165 F167 S166 le168 R169
   obtain ⟨_, rfl, r173⟩ := R169
   obtain ⟨a171, c172, rfl, _⟩ := r173.shape
   have r173 : Bs _ (.slice a171 (encCm (1 + kn) (writesN l0 10)).length c172) (encCm (1 + kn) (writesN l0 10)) := r173
   simp only [pS, pN, pA, pC, pZ]
   refine do_ rfl (.tuple #[(.slice a171 (encCm (1 + kn) (writesN l0 10)).length c172), (.int .i64 0)]) (ex_move _) ?_
   simp only [pS, pN, pA, pC, pZ]
   refine do_ rfl (.slice a171 (encCm (1 + kn) (writesN l0 10)).length c172) (ex_extract rfl rfl) ?_
   simp only [pS, pN, pA, pC, pZ]
   refine do_ rfl (.int .i64 0) (ex_extract rfl rfl) ?_
   simp only [pS, pN, pA, pC, pZ]
   refine do_ rfl (.slice a171 (encCm (1 + kn) (writesN l0 10)).length c172) (ex_assign _) ?_
   simp only [pS, pN, pA, pC, pZ]
   refine do_ rfl (.int .i64 0) (ex_assign _) ?_
   simp only [pS, pN, pA, pC, pZ]
   refine wl_nil (hK152 _ _ ?_)
   refine wp_seq_k (fun K174 hK174 => ?_)
   refine wp_seq_k (fun K175 hK175 => region_wl ?_)
   refine do_ rfl (.slice a109 (writesN l0 10).length c110) (ex_move _) ?_
   simp only [pS, pN, pA, pC, pZ]
   refine do_ rfl (.int .i64 (((writesN l0 10).length : Nat) : Int)) (ex_len Try.underlying44 rfl) ?_
   simp only [pS, pN, pA, pC, pZ]
   refine do_ rfl (.bool false) (ex_eql (m := (((writesN l0 10).length : Nat) : Int)) (n := (0 : Int)) (b := false) rfl rfl (beq_eq_false_iff_ne.2 (by omega))) ?_
   simp only [pS, pN, pA, pC, pZ]
   refine wl_nil (hK175 _ _ ?_)
   refine wp_cond_false rfl ?_
   refine wp_skip ?_
   refine hK174 _ _ ?_
   refine wp_seq_k (fun K176 hK176 => ?_)
   obtain ⟨b177, o178, ha179, c180⟩ := Bs.get r173 (show (encCm (1 + kn) (writesN l0 10))[0]? = some (b8 ((1 + kn) / 65536)) from rfl)
   have hb0 := UInt8.toNat_lt (b8 ((1 + kn) / 65536))
   obtain ⟨b181, o182, ha183, c184⟩ := Bs.get r173 (show (encCm (1 + kn) (writesN l0 10))[1]? = some (b8 ((1 + kn) / 256)) from rfl)
   have hq_ := ha183.symm.trans ha179; injection hq_ with hq_; injection hq_ with hq1_ hq2_; rw [hq1_, hq2_] at c184
   have hb1 := UInt8.toNat_lt (b8 ((1 + kn) / 256))
   obtain ⟨b185, o186, ha187, c188⟩ := Bs.get r173 (show (encCm (1 + kn) (writesN l0 10))[2]? = some (b8 (1 + kn)) from rfl)
   have hq_ := ha187.symm.trans ha179; injection hq_ with hq_; injection hq_ with hq1_ hq2_; rw [hq1_, hq2_] at c188
   have hb2 := UInt8.toNat_lt (b8 (1 + kn))
   obtain ⟨b189, o190, ha191, c192⟩ := Bs.get r173 (show (encCm (1 + kn) (writesN l0 10))[3]? = some (b8 (writesN l0 10).length) from rfl)
   have hq_ := ha191.symm.trans ha179; injection hq_ with hq_; injection hq_ with hq1_ hq2_; rw [hq1_, hq2_] at c192
   have hb3 := UInt8.toNat_lt (b8 (writesN l0 10).length)
   have hel : (encCm (1 + kn) (writesN l0 10)).length = n := by rw [encCm_head, List.length_append, hn]; rfl
   have hk3 := enc3 (k := 1 + kn) (by omega)
   have hw8 := b8_toNat (n := (writesN l0 10).length) (by omega)
   refine region_gw F167 35 [] (by kernel_rfl) (by kernel_rfl) ?_
   simp only [List.take_succ_cons, List.take_zero]
   refine gw_pure rfl rfl (.int .i64 0) (fun w193 hCw193 => pureAt_of (ex_move _)) ?_
   simp only [pS, pN, pA, pC, pZ]
   refine gw_pure rfl rfl (.bool true) (fun w193 hCw193 => pureAt_of (ex_eql (b := true) rfl rfl (by decide))) ?_
   simp only [pS, pN, pA, pC, pZ]
   refine gw_pure rfl rfl (.bool true) (fun w193 hCw193 => pureAt_of (ex_move _)) ?_
   simp only [pS, pN, pA, pC, pZ]
   refine gw_pure rfl rfl (.slice a171 (encCm (1 + kn) (writesN l0 10)).length c172) (fun w193 hCw193 => pureAt_of (ex_move _)) ?_
   simp only [pS, pN, pA, pC, pZ]
   refine gw_pure rfl rfl (.int .i64 (((encCm (1 + kn) (writesN l0 10)).length : Nat) : Int)) (fun w193 hCw193 => pureAt_of (ex_len Try.underlying25 rfl)) ?_
   simp only [pS, pN, pA, pC, pZ]
   refine gw_pure rfl rfl (.int .i64 ((n : Nat) : Int)) (fun w193 hCw193 => pureAt_of (ex_move _)) ?_
   simp only [pS, pN, pA, pC, pZ]
   refine gw_pure rfl rfl (.bool true) (fun w193 hCw193 => pureAt_of (ex_eql (m := (((encCm (1 + kn) (writesN l0 10)).length : Nat) : Int)) (n := ((n : Nat) : Int)) (b := true) rfl rfl (beq_iff_eq.2 (by omega)))) ?_
   simp only [pS, pN, pA, pC, pZ]
   refine gw_pure rfl rfl (.bool true) (fun w193 hCw193 => pureAt_of (ex_pick (b := true) rfl)) ?_
   simp only [pS, pN, pA, pC, pZ]
   refine gw_pure rfl rfl (.bool true) (fun w193 hCw193 => pureAt_of (ex_move _)) ?_
   simp only [pS, pN, pA, pC, pZ]
   refine gw_pure rfl rfl (.slice a171 (encCm (1 + kn) (writesN l0 10)).length c172) (fun w193 hCw193 => pureAt_of (ex_move _)) ?_
   simp only [pS, pN, pA, pC, pZ]
   refine gw_pure rfl rfl (.pointer (some ⟨b177, o178 + 0 * 1, none⟩)) (fun w193 hCw193 => pureAt_of (ex_at (i := 0) (sz := 1) Try.underlying25 (sizeof_5 _) rfl ha179 rfl (by show 0 < (encCm (1 + kn) (writesN l0 10)).length; omega) rfl)) ?_
   simp only [pS, pN, pA, pC, pZ]
   refine gw_pure rfl rfl (bv (b8 ((1 + kn) / 65536))) (fun w193 hCw193 => pureAt_of (ex_load rfl (load1 (nagg_5 _) (St.fz (St.tells S166 hCw193) c180)))) ?_
   simp only [pS, pN, pA, pC, pZ]
   refine gw_pure rfl rfl (.int .i64 (((b8 ((1 + kn) / 65536)).toNat : Nat) : Int)) (fun w193 hCw193 => pureAt_of (ex_convert (v := (bv (b8 ((1 + kn) / 65536)))) rfl (conv_int (b8 ((1 + kn) / 65536)) _))) ?_
   simp only [pS, pN, pA, pC, pZ]
   refine gw_pure rfl rfl (.int .i64 ((((b8 ((1 + kn) / 65536)).toNat * 65536) : Nat) : Int)) (fun w193 hCw193 => pureAt_of (ex_shlN (m := ((b8 ((1 + kn) / 65536)).toNat)) (n := 16) (r := ((b8 ((1 + kn) / 65536)).toNat) * 65536) rfl rfl (by decide) rfl (by omega))) ?_
   simp only [pS, pN, pA, pC, pZ]
   refine gw_pure rfl rfl (.slice a171 (encCm (1 + kn) (writesN l0 10)).length c172) (fun w193 hCw193 => pureAt_of (ex_move _)) ?_
   simp only [pS, pN, pA, pC, pZ]
   refine gw_pure rfl rfl (.pointer (some ⟨b177, o178 + 1 * 1, none⟩)) (fun w193 hCw193 => pureAt_of (ex_at (i := 1) (sz := 1) Try.underlying25 (sizeof_5 _) rfl ha179 rfl (by show 1 < (encCm (1 + kn) (writesN l0 10)).length; omega) rfl)) ?_
   simp only [pS, pN, pA, pC, pZ]
   refine gw_pure rfl rfl (bv (b8 ((1 + kn) / 256))) (fun w193 hCw193 => pureAt_of (ex_load rfl (load1 (nagg_5 _) (St.fz (St.tells S166 hCw193) c184)))) ?_
   simp only [pS, pN, pA, pC, pZ]
   refine gw_pure rfl rfl (.int .i64 (((b8 ((1 + kn) / 256)).toNat : Nat) : Int)) (fun w193 hCw193 => pureAt_of (ex_convert (v := (bv (b8 ((1 + kn) / 256)))) rfl (conv_int (b8 ((1 + kn) / 256)) _))) ?_
   simp only [pS, pN, pA, pC, pZ]
   refine gw_pure rfl rfl (.int .i64 ((((b8 ((1 + kn) / 256)).toNat * 256) : Nat) : Int)) (fun w193 hCw193 => pureAt_of (ex_shlN (m := ((b8 ((1 + kn) / 256)).toNat)) (n := 8) (r := ((b8 ((1 + kn) / 256)).toNat) * 256) rfl rfl (by decide) rfl (by omega))) ?_
   simp only [pS, pN, pA, pC, pZ]
   refine gw_pure rfl rfl (.int .i64 (((((b8 ((1 + kn) / 65536)).toNat * 65536) + ((b8 ((1 + kn) / 256)).toNat * 256)) : Nat) : Int)) (fun w193 hCw193 => pureAt_of (ex_orN (m := ((b8 ((1 + kn) / 65536)).toNat * 65536)) (n := ((b8 ((1 + kn) / 256)).toNat * 256)) (r := ((b8 ((1 + kn) / 65536)).toNat * 65536) + ((b8 ((1 + kn) / 256)).toNat * 256)) rfl rfl (by omega) (by omega) (or16 _ _ hb1))) ?_
   simp only [pS, pN, pA, pC, pZ]
   refine gw_pure rfl rfl (.slice a171 (encCm (1 + kn) (writesN l0 10)).length c172) (fun w193 hCw193 => pureAt_of (ex_move _)) ?_
   simp only [pS, pN, pA, pC, pZ]
   refine gw_pure rfl rfl (.pointer (some ⟨b177, o178 + 2 * 1, none⟩)) (fun w193 hCw193 => pureAt_of (ex_at (i := 2) (sz := 1) Try.underlying25 (sizeof_5 _) rfl ha179 rfl (by show 2 < (encCm (1 + kn) (writesN l0 10)).length; omega) rfl)) ?_
   simp only [pS, pN, pA, pC, pZ]
   refine gw_pure rfl rfl (bv (b8 (1 + kn))) (fun w193 hCw193 => pureAt_of (ex_load rfl (load1 (nagg_5 _) (St.fz (St.tells S166 hCw193) c188)))) ?_
   simp only [pS, pN, pA, pC, pZ]
   refine gw_pure rfl rfl (.int .i64 (((b8 (1 + kn)).toNat : Nat) : Int)) (fun w193 hCw193 => pureAt_of (ex_convert (v := (bv (b8 (1 + kn)))) rfl (conv_int (b8 (1 + kn)) _))) ?_
   simp only [pS, pN, pA, pC, pZ]
   refine gw_pure rfl rfl (.int .i64 ((((((b8 ((1 + kn) / 65536)).toNat * 65536) + ((b8 ((1 + kn) / 256)).toNat * 256)) + (b8 (1 + kn)).toNat) : Nat) : Int)) (fun w193 hCw193 => pureAt_of (ex_orN (m := (((b8 ((1 + kn) / 65536)).toNat * 65536) + ((b8 ((1 + kn) / 256)).toNat * 256))) (n := ((b8 (1 + kn)).toNat)) (r := (((b8 ((1 + kn) / 65536)).toNat * 65536) + ((b8 ((1 + kn) / 256)).toNat * 256)) + ((b8 (1 + kn)).toNat)) rfl rfl (by omega) (by omega) (or8 _ _ _ hb2))) ?_
   simp only [pS, pN, pA, pC, pZ]
   refine gw_pure rfl rfl (.int .i64 (((1 + kn) : Nat) : Int)) (fun w193 hCw193 => pureAt_of (ex_move _)) ?_
   simp only [pS, pN, pA, pC, pZ]
   refine gw_pure rfl rfl (.bool true) (fun w193 hCw193 => pureAt_of (ex_eql (m := ((((((b8 ((1 + kn) / 65536)).toNat * 65536) + ((b8 ((1 + kn) / 256)).toNat * 256)) + (b8 (1 + kn)).toNat) : Nat) : Int)) (n := (((1 + kn) : Nat) : Int)) (b := true) rfl rfl (beq_iff_eq.2 (by omega)))) ?_
   simp only [pS, pN, pA, pC, pZ]
   refine gw_pure rfl rfl (.bool true) (fun w193 hCw193 => pureAt_of (ex_pick (b := true) rfl)) ?_
   simp only [pS, pN, pA, pC, pZ]
   refine gw_pure rfl rfl (.bool true) (fun w193 hCw193 => pureAt_of (ex_move _)) ?_
   simp only [pS, pN, pA, pC, pZ]
   refine gw_pure rfl rfl (.slice a171 (encCm (1 + kn) (writesN l0 10)).length c172) (fun w193 hCw193 => pureAt_of (ex_move _)) ?_
   simp only [pS, pN, pA, pC, pZ]
   refine gw_pure rfl rfl (.pointer (some ⟨b177, o178 + 3 * 1, none⟩)) (fun w193 hCw193 => pureAt_of (ex_at (i := 3) (sz := 1) Try.underlying25 (sizeof_5 _) rfl ha179 rfl (by show 3 < (encCm (1 + kn) (writesN l0 10)).length; omega) rfl)) ?_
   simp only [pS, pN, pA, pC, pZ]
   refine gw_pure rfl rfl (bv (b8 (writesN l0 10).length)) (fun w193 hCw193 => pureAt_of (ex_load rfl (load1 (nagg_5 _) (St.fz (St.tells S166 hCw193) c192)))) ?_
   simp only [pS, pN, pA, pC, pZ]
   refine gw_pure rfl rfl (.int .i64 (((b8 (writesN l0 10).length).toNat : Nat) : Int)) (fun w193 hCw193 => pureAt_of (ex_convert (v := (bv (b8 (writesN l0 10).length))) rfl (conv_int (b8 (writesN l0 10).length) _))) ?_
   simp only [pS, pN, pA, pC, pZ]
   refine gw_pure rfl rfl (.slice a109 (writesN l0 10).length c110) (fun w193 hCw193 => pureAt_of (ex_move _)) ?_
   simp only [pS, pN, pA, pC, pZ]
   refine gw_pure rfl rfl (.int .i64 (((writesN l0 10).length : Nat) : Int)) (fun w193 hCw193 => pureAt_of (ex_len Try.underlying44 rfl)) ?_
   simp only [pS, pN, pA, pC, pZ]
   refine gw_nil ?_
   intro w194 hC196 hF197
   clear hF197
   have S195 := St.tells S166 hC196
   simp only [List.drop_succ_cons, List.drop_zero]
   refine do_ rfl (.bool true) (ex_eql (m := (((b8 (writesN l0 10).length).toNat : Nat) : Int)) (n := (((writesN l0 10).length : Nat) : Int)) (b := true) rfl rfl (beq_iff_eq.2 (by omega))) ?_
   simp only [pS, pN, pA, pC, pZ]
   refine do_ rfl (.bool true) (ex_pick (b := true) rfl) ?_
   simp only [pS, pN, pA, pC, pZ]
   refine do_ rfl (.bool true) (ex_assign _) ?_
   simp only [pS, pN, pA, pC, pZ]
   refine wl_nil (hK176 _ _ ?_)
   refine wp_ret ?_
   (try simp only [Exit.then, Exit.inBlock, ↓reduceIte, Nat.reduceEqDiff])
   refine bodyPost_ret (v := (.bool true)) ?_ rfl ?_
   ·exact res_t rfl rfl
   ·exact ⟨rfl, S195.gr.below⟩
end Go.Proofs.Ytcpngkkconalhaa
