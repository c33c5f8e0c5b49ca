/- The walk of TapeMany -/
import Derived.Test.YtikklmjengkliaaDoorBT11
namespace Go.Proofs.YtikklmjengkliaaDoor
open Go.RowKit
set_option maxRecDepth 100000
set_option linter.unusedVariables false
set_option linter.unusedSimpArgs false
set_option maxHeartbeats 8000000 in
theorem tapeMany_walk (W : World) (hT : Tabs W) (v0 : Value) (l0 : List Pl) (z0 : Pls (whole W) v0 l0) :
    Calls Tryd.prog 8 #[v0] W (Tells W (.bool true)) := by
 obtain ⟨a0, c0, rfl, q0, q0'⟩ := Sl.shape z0
 obtain ⟨i5, hi5, hz5, hs5, hb5⟩ := info_parts infoU8
 have S := St.start (Sat.whole W)
 go_enter Tryd.func8, Tryd.ntmps8
 refine wp_seq_k (fun K101 hK101 => region_wl ?_)
 refine do_ rfl (.bool false) (ex_assign _) ?_
 simp only [pS, pN, pA, pC, pZ]
 refine wl_nil (hK101 _ _ ?_)
 refine wp_seq_k (fun K102 hK102 => region_wl ?_)
 refine do_ rfl (.slice a0 l0.length c0) (ex_move _) ?_
 simp only [pS, pN, pA, pC, pZ]
 refine stGives S rfl (ex_fn (vs := #[(.slice a0 l0.length c0), (.int .i64 16)]) (map2 rfl rfl) rfl (ent_25 _ _)) (commitsN_spec _ _ _ l0 16 (S).sat z0 (by omega)) ?_
 intro v108 w103 F105 S104 le106 R107
 obtain ⟨cs, R107, hh, hcl, hcp⟩ := R107
 obtain ⟨a109, c110, rfl, h111, h112⟩ := Sl.shape R107
 unfold maxLen at h112
 have htl := tapeB_len_le hh.ok
 simp only [pS, pN, pA, pC, pZ]
 refine do_ rfl (.slice a109 cs.length c110) (ex_assign _) ?_
 simp only [pS, pN, pA, pC, pZ]
 refine wl_nil (hK102 _ _ ?_)
 refine wp_seq_k (fun K113 hK113 => region_wl ?_)
 refine do_ rfl (.slice a109 cs.length c110) (ex_move _) ?_
 simp only [pS, pN, pA, pC, pZ]
 refine stGives S104 rfl (ex_fn (vs := #[(.slice a109 cs.length c110)]) (map1 rfl) rfl (ent_29 _ _)) (taped_spec _ _ _ cs (S104).sat (hT.at S104.gr.below) R107 hh.ok (by omega)) ?_
 intro v119 w114 F116 S115 le117 R118
 obtain ⟨_, rfl, R120⟩ := R118
 obtain ⟨a121, c122, rfl, r123⟩ := R120
 have r123 : Bs _ (.slice a121 (tapeB cs).length c122) (tapeB cs) := r123
 simp only [pS, pN, pA, pC, pZ]
 refine do_ rfl (.tuple #[(.agg #[(.slice a121 (tapeB cs).length c122), (.int .i64 0)]), (.bool true)]) (ex_move _) ?_
 simp only [pS, pN, pA, pC, pZ]
 refine do_ rfl (.agg #[(.slice a121 (tapeB cs).length c122), (.int .i64 0)]) (ex_extract rfl rfl) ?_
 simp only [pS, pN, pA, pC, pZ]
 refine do_ rfl (.bool true) (ex_extract rfl rfl) ?_
 simp only [pS, pN, pA, pC, pZ]
 refine stNew S115 (v := fun n => .pointer (some ⟨n, 0, none⟩)) rfl (ex_alloc (zero_67 _)) (fun n124 w125 S126 => ?_)
 simp only [pS, pN, pA, pC, pZ]
 have S126 : St W (whole W) w125 F116 [⟨n124, [(.slice none 0 0), (.int .i64 0)], 67⟩] [] := S126
 refine stStore (i := 0) (v := (.agg #[(.slice a121 (tapeB cs).length c122), (.int .i64 0)])) S126 rfl rfl rfl rfl (size_67) (allc2 rfl rfl) (Nat.le_of_ble_eq_true rfl) (fun w127 S128 => ?_)
 simp only [pS, pN, pA, pC, pZ]
 have S128 : St W (whole W) w127 F116 [⟨n124, [(.slice a121 (tapeB cs).length c122), (.int .i64 0)], 67⟩] [] := S128
 refine do_ rfl (.bool true) (ex_assign _) ?_
 simp only [pS, pN, pA, pC, pZ]
 refine wl_nil (hK113 _ _ ?_)
 refine wp_seq_k (fun K129 hK129 => region_wl ?_)
 refine do_ rfl (.int .i64 0) (ex_assign _) ?_
 simp only [pS, pN, pA, pC, pZ]
 refine wl_nil (hK129 _ _ ?_)
 refine wp_seq_k (fun K130 hK130 => ?_)
 refine wp_seq_k (fun K131 hK131 => region_wl ?_)
 refine do_ rfl (.int .i64 0) (ex_assign _) ?_
 simp only [pS, pN, pA, pC, pZ]
 refine wl_nil (hK131 _ _ ?_)
 refine wp_block ?_
 refine wp_loop_g (fun mm aa w134 => ∃ (k : Nat) (n : Nat) (F132 : Fz) (u133 : Nat → Value), mm = cs.length - k ∧ u133 = slots aa ∧ aa = ⟨#[(.slice a0 l0.length c0), undef, (u133 2), (.slice a109 cs.length c110), (.pointer (some ⟨n124, 0, none⟩)), (.bool true), (.int .i64 ((n : Nat) : Int)), (.int .i64 ((k : Nat) : Int)), (u133 8), (u133 9), undef, undef, (.slice a0 l0.length c0), (.slice a109 cs.length c110), (.tuple #[(.agg #[(.slice a121 (tapeB cs).length c122), (.int .i64 0)]), (.bool true)]), (.slice a109 cs.length c110), (.tuple #[(.agg #[(.slice a121 (tapeB cs).length c122), (.int .i64 0)]), (.bool true)]), (.agg #[(.slice a121 (tapeB cs).length c122), (.int .i64 0)]), (.bool true), (u133 19), (u133 20), (u133 21), (u133 22), (u133 23), (u133 24), (u133 25), (u133 26), (u133 27), (u133 28), (u133 29), (u133 30), (u133 31), (u133 32), (u133 33), (u133 34), (u133 35), (u133 36), (u133 37), (u133 38), (u133 39), undef, undef, undef, undef, undef, undef, undef, undef, undef, undef, undef, undef, undef, undef, undef, undef, undef], []⟩ ∧ St W (whole W) w134 F132 [⟨n124, [(.slice a121 (tapeB cs).length c122), (.int .i64 0)], 67⟩] [] ∧ Le F116 F132 ∧ (k ≤ cs.length) ∧ (n = (tapeB (cs.take k)).length)) _ ⟨0, 0, F116, _, rfl, rfl, rfl, S128, Le.refl _, (by omega), (by simp [tapeB])⟩ ?_
 rintro m135 a136 w137 ⟨k, n, F132, u133, rfl, -, rfl, S138, le139, hk, hn⟩ K140 hK140
 refine wp_seq_k (fun K141 hK141 => ?_)
 refine wp_seq_k (fun K142 hK142 => region_wl ?_)
 refine do_ rfl (.int .i64 ((k : Nat) : Int)) (ex_move _) ?_
 simp only [pS, pN, pA, pC, pZ]
 refine do_ rfl (.slice a109 cs.length c110) (ex_move _) ?_
 simp only [pS, pN, pA, pC, pZ]
 refine do_ rfl (.int .i64 ((cs.length : Nat) : Int)) (ex_len Tryd.underlying60 rfl) ?_
 simp only [pS, pN, pA, pC, pZ]
 by_cases hc22 : k < cs.length
 ·refine do_ rfl (.bool true) (ex_lss (m := ((k : Nat) : Int)) (n := ((cs.length : Nat) : Int)) (b := true) rfl rfl (decide_eq_true (by omega))) ?_
  simp only [pS, pN, pA, pC, pZ]
  refine wl_nil (hK142 _ _ ?_)
  refine wp_cond_true rfl ?_
  refine wp_skip ?_
  refine hK141 _ _ ?_
  refine wp_seq_k (fun K143 hK143 => ?_)
  refine wp_block ?_
  refine wp_seq_k (fun K144 hK144 => ?_)
  obtain ⟨m, hp⟩ : ∃ m, cs[k]? = some m := ⟨cs[k], List.getElem?_eq_getElem hc22⟩
  have hmo := hh.ok m (List.mem_of_getElem? hp)
  have hfl := frameB_len hmo
  have hts := congrArg List.length (tapeB_snoc hp)
  rw [List.length_append] at hts
  have htk := tape_le hh.ok k
  have htk2 := tape_le hh.ok (k + 1)
  obtain ⟨b145, o146, ha147, xa150, xc151, c148, c149, r152⟩ := Cms.get (R107.mono (le117.trans le139)) hp
  refine region_wl ?_
  refine do_ rfl (.slice a109 cs.length c110) (ex_move _) ?_
  simp only [pS, pN, pA, pC, pZ]
  refine do_ rfl (.int .i64 ((k : Nat) : Int)) (ex_move _) ?_
  simp only [pS, pN, pA, pC, pZ]
  refine do_ rfl (.pointer (some ⟨b145, o146 + k * 2, none⟩)) (ex_at (i := k) (sz := 2) Tryd.underlying60 (sizeof_72 _) rfl ha147 rfl (by omega) rfl) ?_
  simp only [pS, pN, pA, pC, pZ]
  refine do_ rfl (.agg #[(.int .i64 ((m.turn : Nat) : Int)), (.slice xa150 m.writes.length xc151)]) (ex_load rfl (loadN (cs := [(.int .i64 ((m.turn : Nat) : Int)), (.slice xa150 m.writes.length xc151)]) Tryd.underlying72 rfl (size_72) (range2 (St.fz S138 c148) (St.fz S138 c149)))) ?_
  simp only [pS, pN, pA, pC, pZ]
  refine stGives S138 rfl (ex_fn (vs := #[(.agg #[(.int .i64 ((m.turn : Nat) : Int)), (.slice xa150 m.writes.length xc151)])]) (map1 rfl) rfl (ent_30 _ _)) (encode_spec _ _ _ m (S138).sat ⟨_, _, rfl, r152⟩ hmo) ?_
  intro v158 w153 F155 S154 le156 R157
  obtain ⟨x159, rfl, r160⟩ := R157
  obtain ⟨xa161, xc162, rfl, _⟩ := r160.shape
  simp only [pS, pN, pA, pC, pZ]
  refine do_ rfl (.tuple #[(.slice xa161 (encCm m.turn m.writes).length xc162), (.int .i64 0)]) (ex_move _) ?_
  simp only [pS, pN, pA, pC, pZ]
  refine do_ rfl (.slice xa161 (encCm m.turn m.writes).length xc162) (ex_extract rfl rfl) ?_
  simp only [pS, pN, pA, pC, pZ]
  refine do_ rfl (.int .i64 0) (ex_extract rfl rfl) ?_
  simp only [pS, pN, pA, pC, pZ]
  refine do_ rfl (.slice xa161 (encCm m.turn m.writes).length xc162) (ex_assign _) ?_
  simp only [pS, pN, pA, pC, pZ]
  refine do_ rfl (.int .i64 0) (ex_assign _) ?_
  simp only [pS, pN, pA, pC, pZ]
  refine wl_nil (hK144 _ _ ?_)
  refine wp_seq_k (fun K163 hK163 => ?_)
  refine wp_seq_k (fun K164 hK164 => region_wl ?_)
  refine do_ rfl (.int .i64 0) (ex_move _) ?_
  simp only [pS, pN, pA, pC, pZ]
  refine do_ rfl (.bool false) (ex_neq (m := (0 : Int)) (n := (0 : Int)) (b := false) rfl rfl (bne_eq_false_iff_eq.2 (by omega))) ?_
  simp only [pS, pN, pA, pC, pZ]
  refine wl_nil (hK164 _ _ ?_)
  refine wp_cond_false rfl ?_
  refine wp_skip ?_
  refine hK163 _ _ ?_
  refine region_wl ?_
  refine do_ rfl (.int .i64 ((n : Nat) : Int)) (ex_move _) ?_
  simp only [pS, pN, pA, pC, pZ]
  refine do_ rfl (.slice xa161 (encCm m.turn m.writes).length xc162) (ex_move _) ?_
  simp only [pS, pN, pA, pC, pZ]
  refine do_ rfl (.int .i64 (((encCm m.turn m.writes).length : Nat) : Int)) (ex_len Tryd.underlying23 rfl) ?_
  simp only [pS, pN, pA, pC, pZ]
  refine do_ rfl (.int .i64 (((6 + (encCm m.turn m.writes).length) : Nat) : Int)) (ex_add (m := (6 : Int)) (n := (((encCm m.turn m.writes).length : Nat) : Int)) (r := (((6 + (encCm m.turn m.writes).length) : Nat) : Int)) rfl rfl (by omega) (by omega) (by omega)) ?_
  simp only [pS, pN, pA, pC, pZ]
  refine do_ rfl (.int .i64 (((n + (6 + (encCm m.turn m.writes).length)) : Nat) : Int)) (ex_add (m := ((n : Nat) : Int)) (n := (((6 + (encCm m.turn m.writes).length) : Nat) : Int)) (r := (((n + (6 + (encCm m.turn m.writes).length)) : Nat) : Int)) rfl rfl (by omega) (by omega) (by omega)) ?_
  simp only [pS, pN, pA, pC, pZ]
  refine do_ rfl (.int .i64 (((n + (6 + (encCm m.turn m.writes).length)) : Nat) : Int)) (ex_assign _) ?_
  simp only [pS, pN, pA, pC, pZ]
  refine wl_nil (hK143 _ _ ?_)
  refine region_wl ?_
  refine do_ rfl (.int .i64 ((k : Nat) : Int)) (ex_move _) ?_
  simp only [pS, pN, pA, pC, pZ]
  refine do_ rfl (.int .i64 (((k + 1) : Nat) : Int)) (ex_add (m := ((k : Nat) : Int)) (n := (1 : Int)) (r := (((k + 1) : Nat) : Int)) rfl rfl (by omega) (by omega) (by omega)) ?_
  simp only [pS, pN, pA, pC, pZ]
  refine do_ rfl (.int .i64 (((k + 1) : Nat) : Int)) (ex_assign _) ?_
  simp only [pS, pN, pA, pC, pZ]
  refine wl_nil ?_
  exact hK140 _ _ _ (by omega) ⟨(k + 1), (n + (6 + (encCm m.turn m.writes).length)), F155, _, rfl, rfl, rfl, S154, (le139.trans le156), (by omega), (by omega)⟩
 ·refine do_ rfl (.bool false) (ex_lss (m := ((k : Nat) : Int)) (n := ((cs.length : Nat) : Int)) (b := false) rfl rfl (decide_eq_false (by omega))) ?_
  simp only [pS, pN, pA, pC, pZ]
  refine wl_nil (hK142 _ _ ?_)
  refine wp_cond_false rfl ?_
  refine wp_exit ?_
  refine hK130 _ _ ?_
  refine wp_seq_k (fun K165 hK165 => ?_)
  have hend : cs.take k = cs := List.take_of_length_le (by omega)
  rw [hend] at hn
  refine region_wl ?_
  refine do_ rfl (.agg #[(.slice none 0 0), (.int .i64 1)]) (ex_build (ps := #[(1, (.int .i64 1))]) (bmap1 rfl) (by kernel_rfl)) ?_
  simp only [pS, pN, pA, pC, pZ]
  refine stTells (v := (.tuple #[(.agg #[(.slice none 0 0), (.int .i64 0)]), (.int .i64 6)])) S138 rfl (ex_fn (vs := #[(.agg #[(.slice none 0 0), (.int .i64 1)])]) (map1 rfl) rfl (ent_31 _ _)) (syncBad_spec _ _ (S138).sat) (fun w166 S167 => ?_)
  simp only [pS, pN, pA, pC, pZ]
  refine do_ rfl (.tuple #[(.agg #[(.slice none 0 0), (.int .i64 0)]), (.int .i64 6)]) (ex_move _) ?_
  simp only [pS, pN, pA, pC, pZ]
  refine do_ rfl (.agg #[(.slice none 0 0), (.int .i64 0)]) (ex_extract rfl rfl) ?_
  simp only [pS, pN, pA, pC, pZ]
  refine do_ rfl (.int .i64 6) (ex_extract rfl rfl) ?_
  simp only [pS, pN, pA, pC, pZ]
  refine stNew S167 (v := fun n => .pointer (some ⟨n, 0, none⟩)) rfl (ex_alloc (zero_67 _)) (fun n168 w169 S170 => ?_)
  simp only [pS, pN, pA, pC, pZ]
  have S170 : St W (whole W) w169 F132 [⟨n168, [(.slice none 0 0), (.int .i64 0)], 67⟩, ⟨n124, [(.slice a121 (tapeB cs).length c122), (.int .i64 0)], 67⟩] [] := S170
  refine stStore (i := 0) (v := (.agg #[(.slice none 0 0), (.int .i64 0)])) S170 rfl rfl rfl rfl (size_67) (allc2 rfl rfl) (Nat.le_of_ble_eq_true rfl) (fun w171 S172 => ?_)
  simp only [pS, pN, pA, pC, pZ]
  have S172 : St W (whole W) w171 F132 [⟨n168, [(.slice none 0 0), (.int .i64 0)], 67⟩, ⟨n124, [(.slice a121 (tapeB cs).length c122), (.int .i64 0)], 67⟩] [] := S172
  refine do_ rfl (.int .i64 6) (ex_assign _) ?_
  simp only [pS, pN, pA, pC, pZ]
  refine wl_nil (hK165 _ _ ?_)
  refine wp_seq_k (fun K173 hK173 => region_wl ?_)
  refine do_ rfl (.bool true) (ex_move _) ?_
  simp only [pS, pN, pA, pC, pZ]
  refine do_ rfl (.bool true) (ex_move _) ?_
  simp only [pS, pN, pA, pC, pZ]
  refine do_ rfl (.int .i64 6) (ex_move _) ?_
  simp only [pS, pN, pA, pC, pZ]
  refine do_ rfl (.bool true) (ex_eql (b := true) rfl rfl (by decide)) ?_
  simp only [pS, pN, pA, pC, pZ]
  refine do_ rfl (.bool true) (ex_pick (b := true) rfl) ?_
  simp only [pS, pN, pA, pC, pZ]
  refine do_ rfl (.bool true) (ex_move _) ?_
  simp only [pS, pN, pA, pC, pZ]
  refine do_ rfl (.pointer (some ⟨n124, 0, none⟩)) (ex_field (q := ⟨n124, 0, none⟩) rfl (fa_67_0 _ _)) ?_
  simp only [pS, pN, pA, pC, pZ]
  refine do_ rfl (.slice a121 (tapeB cs).length c122) (ex_load rfl (load1 (nagg_23 _) (St.cell S172 (i := 1) rfl rfl))) ?_
  simp only [pS, pN, pA, pC, pZ]
  refine do_ rfl (.int .i64 (((tapeB cs).length : Nat) : Int)) (ex_len Tryd.underlying23 rfl) ?_
  simp only [pS, pN, pA, pC, pZ]
  refine do_ rfl (.int .i64 ((n : Nat) : Int)) (ex_move _) ?_
  simp only [pS, pN, pA, pC, pZ]
  refine do_ rfl (.bool true) (ex_eql (m := (((tapeB cs).length : Nat) : Int)) (n := ((n : Nat) : Int)) (b := true) rfl rfl (beq_iff_eq.2 (by omega))) ?_
  simp only [pS, pN, pA, pC, pZ]
  refine do_ rfl (.bool true) (ex_pick (b := true) rfl) ?_
  simp only [pS, pN, pA, pC, pZ]
  refine do_ rfl (.bool true) (ex_assign _) ?_
  simp only [pS, pN, pA, pC, pZ]
  refine wl_nil (hK173 _ _ ?_)
  refine wp_ret ?_
  (try simp only [Exit.then, Exit.inBlock, ↓reduceIte, Nat.reduceEqDiff])
  refine bodyPost_ret (v := (.bool true)) ?_ rfl ?_
  ·exact res_t rfl rfl
  ·exact ⟨rfl, S172.gr.below⟩
end Go.Proofs.YtikklmjengkliaaDoor
