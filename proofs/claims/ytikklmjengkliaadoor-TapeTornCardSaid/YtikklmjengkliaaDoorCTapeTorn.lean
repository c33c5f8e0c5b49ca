/- The walk of TapeTorn -/
import Derived.Test.YtikklmjengkliaaDoorBT11
namespace Go.Proofs.YtikklmjengkliaaDoor
open Go.RowKit
set_option maxRecDepth 100000
set_option linter.unusedVariables false
set_option linter.unusedSimpArgs false
set_option maxHeartbeats 8000000 in
theorem tapeTorn_walk (W : World) (hT : Tabs W) (v0 : Value) (l0 : List Pl) (z0 : Pls (whole W) v0 l0) (x1 : Int) (b1 : -9223372036854775808 ≤ x1) (b1' : x1 ≤ 9223372036854775807) (v2 : Value) (l2 : By) (z2 : Bs (whole W) v2 l2) :
    Calls Tryd.prog 10 #[v0, .int .i64 x1, v2] W (Tells W (.bool true)) := by
 obtain ⟨a0, c0, rfl, q0, q0'⟩ := Sl.shape z0
 obtain ⟨a2, c2, rfl, _⟩ := z2.shape
 obtain ⟨i5, hi5, hz5, hs5, hb5⟩ := info_parts infoU8
 have S := St.start (Sat.whole W)
 go_enter Tryd.func10, Tryd.ntmps10
 refine wp_seq_k (fun K101 hK101 => region_wl ?_)
 refine do_ rfl (.bool false) (ex_assign _) ?_
 simp only [pS, pN, pA, pC, pZ]
 refine wl_nil (hK101 _ _ ?_)
 refine wp_seq_k (fun K102 hK102 => region_wl ?_)
 refine do_ rfl (.slice a0 l0.length c0) (ex_move _) ?_
 simp only [pS, pN, pA, pC, pZ]
 refine stGives S rfl (ex_fn (vs := #[(.slice a0 l0.length c0), (.int .i64 16)]) (map2 rfl rfl) rfl (ent_25 _ _)) (commitsN_spec _ _ _ l0 16 (S).sat z0 (by omega)) ?_
 intro v108 w103 F105 S104 le106 R107
 obtain ⟨cs, R107, hh, hcl, hcp⟩ := R107
 obtain ⟨a109, c110, rfl, h111, h112⟩ := Sl.shape R107
 unfold maxLen at h112
 have htl := tapeB_len_le hh.ok
 simp only [pS, pN, pA, pC, pZ]
 refine do_ rfl (.slice a109 cs.length c110) (ex_assign _) ?_
 simp only [pS, pN, pA, pC, pZ]
 refine wl_nil (hK102 _ _ ?_)
 refine wp_seq_k (fun K113 hK113 => region_wl ?_)
 refine do_ rfl (.slice a109 cs.length c110) (ex_move _) ?_
 simp only [pS, pN, pA, pC, pZ]
 refine stGives S104 rfl (ex_fn (vs := #[(.slice a109 cs.length c110)]) (map1 rfl) rfl (ent_29 _ _)) (taped_spec _ _ _ cs (S104).sat (hT.at S104.gr.below) R107 hh.ok (by omega)) ?_
 intro v119 w114 F116 S115 le117 R118
 obtain ⟨_, rfl, R120⟩ := R118
 obtain ⟨a121, c122, rfl, r123⟩ := R120
 have r123 : Bs _ (.slice a121 (tapeB cs).length c122) (tapeB cs) := r123
 simp only [pS, pN, pA, pC, pZ]
 refine do_ rfl (.tuple #[(.agg #[(.slice a121 (tapeB cs).length c122), (.int .i64 0)]), (.bool true)]) (ex_move _) ?_
 simp only [pS, pN, pA, pC, pZ]
 refine do_ rfl (.agg #[(.slice a121 (tapeB cs).length c122), (.int .i64 0)]) (ex_extract rfl rfl) ?_
 simp only [pS, pN, pA, pC, pZ]
 refine do_ rfl (.bool true) (ex_extract rfl rfl) ?_
 simp only [pS, pN, pA, pC, pZ]
 refine stNew S115 (v := fun n => .pointer (some ⟨n, 0, none⟩)) rfl (ex_alloc (zero_67 _)) (fun n124 w125 S126 => ?_)
 simp only [pS, pN, pA, pC, pZ]
 have S126 : St W (whole W) w125 F116 [⟨n124, [(.slice none 0 0), (.int .i64 0)], 67⟩] [] := S126
 refine stStore (i := 0) (v := (.agg #[(.slice a121 (tapeB cs).length c122), (.int .i64 0)])) S126 rfl rfl rfl rfl (size_67) (allc2 rfl rfl) (Nat.le_of_ble_eq_true rfl) (fun w127 S128 => ?_)
 simp only [pS, pN, pA, pC, pZ]
 have S128 : St W (whole W) w127 F116 [⟨n124, [(.slice a121 (tapeB cs).length c122), (.int .i64 0)], 67⟩] [] := S128
 refine do_ rfl (.bool true) (ex_assign _) ?_
 simp only [pS, pN, pA, pC, pZ]
 refine wl_nil (hK113 _ _ ?_)
 refine wp_seq_k (fun K129 hK129 => ?_)
 obtain ⟨hp0kn, hp1kn⟩ := pick_bd x1 (((tapeB cs).length + 1 : Nat) : Int) (by omega)
 obtain ⟨kn, hkn⟩ : ∃ k : Nat, pick x1 (((tapeB cs).length + 1 : Nat) : Int) = (k : Int) := ⟨(pick x1 (((tapeB cs).length + 1 : Nat) : Int)).toNat, (Int.toNat_of_nonneg hp0kn).symm⟩
 have hkb : kn < (tapeB cs).length + 1 := by omega
 refine region_wl ?_
 refine do_ rfl (.int .i64 x1) (ex_move _) ?_
 simp only [pS, pN, pA, pC, pZ]
 refine do_ rfl (.pointer (some ⟨n124, 0, none⟩)) (ex_field (q := ⟨n124, 0, none⟩) rfl (fa_67_0 _ _)) ?_
 simp only [pS, pN, pA, pC, pZ]
 refine do_ rfl (.slice a121 (tapeB cs).length c122) (ex_load rfl (load1 (nagg_23 _) (St.cell S128 (i := 0) rfl rfl))) ?_
 simp only [pS, pN, pA, pC, pZ]
 refine do_ rfl (.int .i64 (((tapeB cs).length : Nat) : Int)) (ex_len Tryd.underlying23 rfl) ?_
 simp only [pS, pN, pA, pC, pZ]
 refine do_ rfl (.int .i64 ((((tapeB cs).length + 1) : Nat) : Int)) (ex_add (m := (((tapeB cs).length : Nat) : Int)) (n := (1 : Int)) (r := ((((tapeB cs).length + 1) : Nat) : Int)) rfl rfl (by omega) (by omega) (by omega)) ?_
 simp only [pS, pN, pA, pC, pZ]
 refine stTells (v := (.int .i64 ((kn : Nat) : Int))) S128 rfl (ex_fn (vs := #[(.int .i64 x1), (.int .i64 ((((tapeB cs).length + 1) : Nat) : Int))]) (map2 rfl rfl) rfl (ent_15 _ _)) (hkn ▸ tells_same (picked_spec x1 ((((tapeB cs).length + 1) : Nat) : Int) _ b1 b1' (by omega) (by omega))) (fun w130 S131 => ?_)
 simp only [pS, pN, pA, pC, pZ]
 refine do_ rfl (.int .i64 ((kn : Nat) : Int)) (ex_assign _) ?_
 simp only [pS, pN, pA, pC, pZ]
 refine wl_nil (hK129 _ _ ?_)
 refine wp_seq_k (fun K132 hK132 => region_wl ?_)
 refine do_ rfl (.pointer (some ⟨n124, 0, none⟩)) (ex_field (q := ⟨n124, 0, none⟩) rfl (fa_67_0 _ _)) ?_
 simp only [pS, pN, pA, pC, pZ]
 refine do_ rfl (.slice a121 (tapeB cs).length c122) (ex_load rfl (load1 (nagg_23 _) (St.cell S131 (i := 0) rfl rfl))) ?_
 simp only [pS, pN, pA, pC, pZ]
 refine do_ rfl (.int .i64 ((kn : Nat) : Int)) (ex_move _) ?_
 simp only [pS, pN, pA, pC, pZ]
 refine do_ rfl (.int .i64 ((kn : Nat) : Int)) (ex_move _) ?_
 simp only [pS, pN, pA, pC, pZ]
 have r133 : Bs _ (.slice a121 kn kn) ((tapeB cs).take kn) := Bs.cut r123 (by omega)
 have hlt : ((tapeB cs).take kn).length = kn := by rw [List.length_take]; omega
 have hcq : (tapeB cs).length ≤ c122 := by obtain ⟨_, _, e, q, _⟩ := r123.shape; simp only [Value.slice.injEq] at e; omega
 have r133 : Bs F116 (.slice a121 ((tapeB cs).take kn).length kn) ((tapeB cs).take kn) := by rw [hlt]; exact r133
 refine do_ rfl (.slice a121 ((tapeB cs).take kn).length kn) (ex_slice3_0 (h := kn) (m := kn) (sz := 1) Tryd.underlying23 rfl (sizeof_5 _) rfl rfl (by omega) (by omega) (by rw [hlt])) ?_
 simp only [pS, pN, pA, pC, pZ]
 refine do_ rfl (.agg #[(.slice a121 ((tapeB cs).take kn).length kn), (.int .i64 0)]) (ex_build (ps := #[(0, (.slice a121 ((tapeB cs).take kn).length kn))]) (bmap1 rfl) (by kernel_rfl)) ?_
 simp only [pS, pN, pA, pC, pZ]
 refine stGives S131 rfl (ex_fn (vs := #[(.agg #[(.slice a121 ((tapeB cs).take kn).length kn), (.int .i64 0)])]) (map1 rfl) rfl (ent_32 _ _)) (recIs2_spec _ _ _ (⟨((tapeB cs).take kn), 0⟩ : Tp) (S131).sat (hT.at S131.gr.below) ⟨_, _, rfl, r133⟩ (⟨by simp only; rw [List.length_take]; omega, Nat.zero_le _⟩) (rec_tape hh (by omega)) (take_whole hh.ok (by omega))) ?_
 intro v139 w134 F136 S135 le137 R138
 obtain ⟨a140, c141, a142, c143, rfl, r144, r145, h146⟩ := R138
 simp only [pS, pN, pA, pC, pZ]
 refine do_ rfl (.tuple #[(.slice a140 (cs.take (wholeN cs kn)).length c141), (.agg #[(.slice a142 (tapeB (cs.take (wholeN cs kn))).length c143), (.int .i64 (((min 0 (tapeB (cs.take (wholeN cs kn))).length) : Nat) : Int))]), (.int .i64 0)]) (ex_move _) ?_
 simp only [pS, pN, pA, pC, pZ]
 refine do_ rfl (.slice a140 (cs.take (wholeN cs kn)).length c141) (ex_extract rfl rfl) ?_
 simp only [pS, pN, pA, pC, pZ]
 refine do_ rfl (.agg #[(.slice a142 (tapeB (cs.take (wholeN cs kn))).length c143), (.int .i64 (((min 0 (tapeB (cs.take (wholeN cs kn))).length) : Nat) : Int))]) (ex_extract rfl rfl) ?_
 simp only [pS, pN, pA, pC, pZ]
 refine do_ rfl (.int .i64 0) (ex_extract rfl rfl) ?_
 simp only [pS, pN, pA, pC, pZ]
 refine stNew S135 (v := fun n => .pointer (some ⟨n, 0, none⟩)) rfl (ex_alloc (zero_67 _)) (fun n147 w148 S149 => ?_)
 simp only [pS, pN, pA, pC, pZ]
 have S149 : St W (whole W) w148 F136 [⟨n147, [(.slice none 0 0), (.int .i64 0)], 67⟩, ⟨n124, [(.slice a121 (tapeB cs).length c122), (.int .i64 0)], 67⟩] [] := S149
 refine do_ rfl (.slice a140 (cs.take (wholeN cs kn)).length c141) (ex_assign _) ?_
 simp only [pS, pN, pA, pC, pZ]
 refine stStore (i := 0) (v := (.agg #[(.slice a142 (tapeB (cs.take (wholeN cs kn))).length c143), (.int .i64 (((min 0 (tapeB (cs.take (wholeN cs kn))).length) : Nat) : Int))])) S149 rfl rfl rfl rfl (size_67) (allc2 rfl rfl) (Nat.le_of_ble_eq_true rfl) (fun w150 S151 => ?_)
 simp only [pS, pN, pA, pC, pZ]
 have S151 : St W (whole W) w150 F136 [⟨n147, [(.slice a142 (tapeB (cs.take (wholeN cs kn))).length c143), (.int .i64 (((min 0 (tapeB (cs.take (wholeN cs kn))).length) : Nat) : Int))], 67⟩, ⟨n124, [(.slice a121 (tapeB cs).length c122), (.int .i64 0)], 67⟩] [] := S151
 refine do_ rfl (.int .i64 0) (ex_assign _) ?_
 simp only [pS, pN, pA, pC, pZ]
 refine wl_nil (hK132 _ _ ?_)
 refine wp_seq_k (fun K152 hK152 => region_wl ?_)
 refine do_ rfl (.agg #[(.slice a142 (tapeB (cs.take (wholeN cs kn))).length c143), (.int .i64 (((min 0 (tapeB (cs.take (wholeN cs kn))).length) : Nat) : Int))]) (ex_load rfl (loadN (cs := [(.slice a142 (tapeB (cs.take (wholeN cs kn))).length c143), (.int .i64 (((min 0 (tapeB (cs.take (wholeN cs kn))).length) : Nat) : Int))]) Tryd.underlying67 rfl (size_67) (St.range S151 (i := 0) rfl 0 [(.slice a142 (tapeB (cs.take (wholeN cs kn))).length c143), (.int .i64 (((min 0 (tapeB (cs.take (wholeN cs kn))).length) : Nat) : Int))] (sub_range 0 rfl)))) ?_
 simp only [pS, pN, pA, pC, pZ]
 refine stGives S151 rfl (ex_fn (vs := #[(.agg #[(.slice a142 (tapeB (cs.take (wholeN cs kn))).length c143), (.int .i64 (((min 0 (tapeB (cs.take (wholeN cs kn))).length) : Nat) : Int))])]) (map1 rfl) rfl (ent_32 _ _)) (recIs2_spec _ _ _ (⟨(tapeB (cs.take (wholeN cs kn))), (min 0 (tapeB (cs.take (wholeN cs kn))).length)⟩ : Tp) (S151).sat (hT.at S151.gr.below) ⟨_, _, rfl, r145⟩ (⟨by have := whole_len cs kn; simp only; omega, by simp only; omega⟩) (rec_all (hh.take _)) (List.take_length)) ?_
 intro v158 w153 F155 S154 le156 R157
 obtain ⟨a159, c160, a161, c162, rfl, r163, r164, h165⟩ := R157
 simp only [pS, pN, pA, pC, pZ]
 refine do_ rfl (.tuple #[(.slice a159 (cs.take (wholeN cs kn)).length c160), (.agg #[(.slice a161 (tapeB (cs.take (wholeN cs kn))).length c162), (.int .i64 (((min (min 0 (tapeB (cs.take (wholeN cs kn))).length) (tapeB (cs.take (wholeN cs kn))).length) : Nat) : Int))]), (.int .i64 0)]) (ex_move _) ?_
 simp only [pS, pN, pA, pC, pZ]
 refine do_ rfl (.slice a159 (cs.take (wholeN cs kn)).length c160) (ex_extract rfl rfl) ?_
 simp only [pS, pN, pA, pC, pZ]
 refine do_ rfl (.agg #[(.slice a161 (tapeB (cs.take (wholeN cs kn))).length c162), (.int .i64 (((min (min 0 (tapeB (cs.take (wholeN cs kn))).length) (tapeB (cs.take (wholeN cs kn))).length) : Nat) : Int))]) (ex_extract rfl rfl) ?_
 simp only [pS, pN, pA, pC, pZ]
 refine do_ rfl (.int .i64 0) (ex_extract rfl rfl) ?_
 simp only [pS, pN, pA, pC, pZ]
 refine stNew S154 (v := fun n => .pointer (some ⟨n, 0, none⟩)) rfl (ex_alloc (zero_67 _)) (fun n166 w167 S168 => ?_)
 simp only [pS, pN, pA, pC, pZ]
 have S168 : St W (whole W) w167 F155 [⟨n166, [(.slice none 0 0), (.int .i64 0)], 67⟩, ⟨n147, [(.slice a142 (tapeB (cs.take (wholeN cs kn))).length c143), (.int .i64 (((min 0 (tapeB (cs.take (wholeN cs kn))).length) : Nat) : Int))], 67⟩, ⟨n124, [(.slice a121 (tapeB cs).length c122), (.int .i64 0)], 67⟩] [] := S168
 refine do_ rfl (.slice a159 (cs.take (wholeN cs kn)).length c160) (ex_assign _) ?_
 simp only [pS, pN, pA, pC, pZ]
 refine stStore (i := 0) (v := (.agg #[(.slice a161 (tapeB (cs.take (wholeN cs kn))).length c162), (.int .i64 (((min (min 0 (tapeB (cs.take (wholeN cs kn))).length) (tapeB (cs.take (wholeN cs kn))).length) : Nat) : Int))])) S168 rfl rfl rfl rfl (size_67) (allc2 rfl rfl) (Nat.le_of_ble_eq_true rfl) (fun w169 S170 => ?_)
 simp only [pS, pN, pA, pC, pZ]
 have S170 : St W (whole W) w169 F155 [⟨n166, [(.slice a161 (tapeB (cs.take (wholeN cs kn))).length c162), (.int .i64 (((min (min 0 (tapeB (cs.take (wholeN cs kn))).length) (tapeB (cs.take (wholeN cs kn))).length) : Nat) : Int))], 67⟩, ⟨n147, [(.slice a142 (tapeB (cs.take (wholeN cs kn))).length c143), (.int .i64 (((min 0 (tapeB (cs.take (wholeN cs kn))).length) : Nat) : Int))], 67⟩, ⟨n124, [(.slice a121 (tapeB cs).length c122), (.int .i64 0)], 67⟩] [] := S170
 refine do_ rfl (.int .i64 0) (ex_assign _) ?_
 simp only [pS, pN, pA, pC, pZ]
 refine wl_nil (hK152 _ _ ?_)
 refine wp_seq_k (fun K171 hK171 => ?_)
 have hwl := wholeN_le cs kn
 have hlw : (cs.take (wholeN cs kn)).length = (wholeN cs kn) := by rw [List.length_take]; omega
 by_cases hkf : kn = (tapeB cs).length
 ·have hww : (wholeN cs kn) = cs.length := by rw [hkf]; exact whole_all hh.ok
  refine region_wl ?_
  refine do_ rfl (.bool true) (ex_move _) ?_
  simp only [pS, pN, pA, pC, pZ]
  refine do_ rfl (.bool true) (ex_move _) ?_
  simp only [pS, pN, pA, pC, pZ]
  refine do_ rfl (.int .i64 0) (ex_move _) ?_
  simp only [pS, pN, pA, pC, pZ]
  refine do_ rfl (.bool true) (ex_eql (b := true) rfl rfl (by decide)) ?_
  simp only [pS, pN, pA, pC, pZ]
  refine do_ rfl (.bool true) (ex_pick (b := true) rfl) ?_
  simp only [pS, pN, pA, pC, pZ]
  refine do_ rfl (.bool true) (ex_move _) ?_
  simp only [pS, pN, pA, pC, pZ]
  refine do_ rfl (.int .i64 0) (ex_move _) ?_
  simp only [pS, pN, pA, pC, pZ]
  refine do_ rfl (.bool true) (ex_eql (b := true) rfl rfl (by decide)) ?_
  simp only [pS, pN, pA, pC, pZ]
  refine do_ rfl (.bool true) (ex_pick (b := true) rfl) ?_
  simp only [pS, pN, pA, pC, pZ]
  refine do_ rfl (.bool true) (ex_move _) ?_
  simp only [pS, pN, pA, pC, pZ]
  refine do_ rfl (.slice a140 (cs.take (wholeN cs kn)).length c141) (ex_move _) ?_
  simp only [pS, pN, pA, pC, pZ]
  refine do_ rfl (.slice a109 cs.length c110) (ex_move _) ?_
  simp only [pS, pN, pA, pC, pZ]
  refine stTells (v := (.bool true)) S170 rfl (ex_fn (vs := #[(.slice a140 (cs.take (wholeN cs kn)).length c141), (.slice a109 cs.length c110)]) (map2 rfl rfl) rfl (ent_33 _ _)) (begins_is _ _ _ _ (cs.take (wholeN cs kn)) cs (S170).sat (r144.mono le156) (R107.mono ((le117.trans le137).trans le156)) (pre_take _ _)) (fun w172 S173 => ?_)
  simp only [pS, pN, pA, pC, pZ]
  refine do_ rfl (.bool true) (ex_pick (b := true) rfl) ?_
  simp only [pS, pN, pA, pC, pZ]
  refine do_ rfl (.bool true) (ex_move _) ?_
  simp only [pS, pN, pA, pC, pZ]
  refine do_ rfl (.slice a159 (cs.take (wholeN cs kn)).length c160) (ex_move _) ?_
  simp only [pS, pN, pA, pC, pZ]
  refine do_ rfl (.slice a140 (cs.take (wholeN cs kn)).length c141) (ex_move _) ?_
  simp only [pS, pN, pA, pC, pZ]
  refine stTells (v := (.bool true)) S173 rfl (ex_fn (vs := #[(.slice a159 (cs.take (wholeN cs kn)).length c160), (.slice a140 (cs.take (wholeN cs kn)).length c141)]) (map2 rfl rfl) rfl (ent_33 _ _)) (begins_is _ _ _ _ (cs.take (wholeN cs kn)) (cs.take (wholeN cs kn)) (S173).sat r163 (r144.mono le156) (pre_refl _)) (fun w174 S175 => ?_)
  simp only [pS, pN, pA, pC, pZ]
  refine do_ rfl (.bool true) (ex_pick (b := true) rfl) ?_
  simp only [pS, pN, pA, pC, pZ]
  refine do_ rfl (.bool true) (ex_move _) ?_
  simp only [pS, pN, pA, pC, pZ]
  refine do_ rfl (.slice a159 (cs.take (wholeN cs kn)).length c160) (ex_move _) ?_
  simp only [pS, pN, pA, pC, pZ]
  refine do_ rfl (.int .i64 (((cs.take (wholeN cs kn)).length : Nat) : Int)) (ex_len Tryd.underlying60 rfl) ?_
  simp only [pS, pN, pA, pC, pZ]
  refine do_ rfl (.slice a140 (cs.take (wholeN cs kn)).length c141) (ex_move _) ?_
  simp only [pS, pN, pA, pC, pZ]
  refine do_ rfl (.int .i64 (((cs.take (wholeN cs kn)).length : Nat) : Int)) (ex_len Tryd.underlying60 rfl) ?_
  simp only [pS, pN, pA, pC, pZ]
  refine do_ rfl (.bool true) (ex_eql (m := (((cs.take (wholeN cs kn)).length : Nat) : Int)) (n := (((cs.take (wholeN cs kn)).length : Nat) : Int)) (b := true) rfl rfl (beq_iff_eq.2 (rfl))) ?_
  simp only [pS, pN, pA, pC, pZ]
  refine do_ rfl (.bool true) (ex_pick (b := true) rfl) ?_
  simp only [pS, pN, pA, pC, pZ]
  refine do_ rfl (.bool true) (ex_move _) ?_
  simp only [pS, pN, pA, pC, pZ]
  refine do_ rfl (.pointer (some ⟨n147, 0, none⟩)) (ex_field (q := ⟨n147, 0, none⟩) rfl (fa_67_0 _ _)) ?_
  simp only [pS, pN, pA, pC, pZ]
  refine do_ rfl (.slice a142 (tapeB (cs.take (wholeN cs kn))).length c143) (ex_load rfl (load1 (nagg_23 _) (St.cell S175 (i := 1) rfl rfl))) ?_
  simp only [pS, pN, pA, pC, pZ]
  refine do_ rfl (.int .i64 (((tapeB (cs.take (wholeN cs kn))).length : Nat) : Int)) (ex_len Tryd.underlying23 rfl) ?_
  simp only [pS, pN, pA, pC, pZ]
  refine do_ rfl (.int .i64 ((kn : Nat) : Int)) (ex_move _) ?_
  simp only [pS, pN, pA, pC, pZ]
  refine do_ rfl (.bool true) (ex_leq (m := (((tapeB (cs.take (wholeN cs kn))).length : Nat) : Int)) (n := ((kn : Nat) : Int)) (b := true) rfl rfl (decide_eq_true (by have := whole_len cs kn; omega))) ?_
  simp only [pS, pN, pA, pC, pZ]
  refine do_ rfl (.bool true) (ex_pick (b := true) rfl) ?_
  simp only [pS, pN, pA, pC, pZ]
  refine do_ rfl (.bool true) (ex_move _) ?_
  simp only [pS, pN, pA, pC, pZ]
  refine do_ rfl (.pointer (some ⟨n147, 0, none⟩)) (ex_field (q := ⟨n147, 0, none⟩) rfl (fa_67_0 _ _)) ?_
  simp only [pS, pN, pA, pC, pZ]
  refine do_ rfl (.slice a142 (tapeB (cs.take (wholeN cs kn))).length c143) (ex_load rfl (load1 (nagg_23 _) (St.cell S175 (i := 1) rfl rfl))) ?_
  simp only [pS, pN, pA, pC, pZ]
  refine do_ rfl (.pointer (some ⟨n166, 0, none⟩)) (ex_field (q := ⟨n166, 0, none⟩) rfl (fa_67_0 _ _)) ?_
  simp only [pS, pN, pA, pC, pZ]
  refine do_ rfl (.slice a161 (tapeB (cs.take (wholeN cs kn))).length c162) (ex_load rfl (load1 (nagg_23 _) (St.cell S175 (i := 0) rfl rfl))) ?_
  simp only [pS, pN, pA, pC, pZ]
  refine stTells (v := (.bool true)) S175 rfl (ex_fn (vs := #[(.slice a142 (tapeB (cs.take (wholeN cs kn))).length c143), (.slice a161 (tapeB (cs.take (wholeN cs kn))).length c162)]) (map2 rfl rfl) rfl (ent_19 _ _)) (tells_bool (tells_same (same_spec _ _ _ _ (tapeB (cs.take (wholeN cs kn))) (tapeB (cs.take (wholeN cs kn))) (S175).sat (r145.mono le156) r164)) (beq_iff_eq.2 (rfl))) (fun w176 S177 => ?_)
  simp only [pS, pN, pA, pC, pZ]
  refine do_ rfl (.bool true) (ex_pick (b := true) rfl) ?_
  simp only [pS, pN, pA, pC, pZ]
  refine do_ rfl (.bool true) (ex_move _) ?_
  simp only [pS, pN, pA, pC, pZ]
  refine do_ rfl (.slice a140 (cs.take (wholeN cs kn)).length c141) (ex_move _) ?_
  simp only [pS, pN, pA, pC, pZ]
  refine do_ rfl (.int .i64 (((cs.take (wholeN cs kn)).length : Nat) : Int)) (ex_len Tryd.underlying60 rfl) ?_
  simp only [pS, pN, pA, pC, pZ]
  refine do_ rfl (.slice a109 cs.length c110) (ex_move _) ?_
  simp only [pS, pN, pA, pC, pZ]
  refine do_ rfl (.int .i64 ((cs.length : Nat) : Int)) (ex_len Tryd.underlying60 rfl) ?_
  simp only [pS, pN, pA, pC, pZ]
  refine do_ rfl (.bool true) (ex_eql (m := (((cs.take (wholeN cs kn)).length : Nat) : Int)) (n := ((cs.length : Nat) : Int)) (b := true) rfl rfl (beq_iff_eq.2 (by omega))) ?_
  simp only [pS, pN, pA, pC, pZ]
  refine do_ rfl (.int .i64 ((kn : Nat) : Int)) (ex_move _) ?_
  simp only [pS, pN, pA, pC, pZ]
  refine do_ rfl (.pointer (some ⟨n124, 0, none⟩)) (ex_field (q := ⟨n124, 0, none⟩) rfl (fa_67_0 _ _)) ?_
  simp only [pS, pN, pA, pC, pZ]
  refine do_ rfl (.slice a121 (tapeB cs).length c122) (ex_load rfl (load1 (nagg_23 _) (St.cell S177 (i := 2) rfl rfl))) ?_
  simp only [pS, pN, pA, pC, pZ]
  refine do_ rfl (.int .i64 (((tapeB cs).length : Nat) : Int)) (ex_len Tryd.underlying23 rfl) ?_
  simp only [pS, pN, pA, pC, pZ]
  refine do_ rfl (.bool true) (ex_eql (m := ((kn : Nat) : Int)) (n := (((tapeB cs).length : Nat) : Int)) (b := true) rfl rfl (beq_iff_eq.2 (by omega))) ?_
  simp only [pS, pN, pA, pC, pZ]
  refine do_ rfl (.bool true) (ex_eqlB Tryd.underlying4 rfl rfl (rfl)) ?_
  simp only [pS, pN, pA, pC, pZ]
  refine do_ rfl (.bool true) (ex_pick (b := true) rfl) ?_
  simp only [pS, pN, pA, pC, pZ]
  refine do_ rfl (.bool true) (ex_move _) ?_
  simp only [pS, pN, pA, pC, pZ]
  refine do_ rfl (.slice a0 l0.length c0) (ex_move _) ?_
  simp only [pS, pN, pA, pC, pZ]
  refine do_ rfl (.int .i64 ((l0.length : Nat) : Int)) (ex_len Tryd.underlying22 rfl) ?_
  simp only [pS, pN, pA, pC, pZ]
  by_cases hc103 : l0.length = 0
  ·refine do_ rfl (.bool true) (ex_eql (m := ((l0.length : Nat) : Int)) (n := (0 : Int)) (b := true) rfl rfl (beq_iff_eq.2 (by omega))) ?_
   simp only [pS, pN, pA, pC, pZ]
   refine do_ rfl (.bool true) (ex_move _) ?_
   simp only [pS, pN, pA, pC, pZ]
   refine doN (wanted_no rfl rfl rfl (c := true) rfl (by decide)) ?_
   simp only [pS, pN, pA, pC, pZ]
   refine doN (wanted_no rfl rfl rfl (c := true) rfl (by decide)) ?_
   simp only [pS, pN, pA, pC, pZ]
   refine doN (wanted_no rfl rfl rfl (c := true) rfl (by decide)) ?_
   simp only [pS, pN, pA, pC, pZ]
   refine do_ rfl (.bool true) (ex_pick (b := true) rfl) ?_
   simp only [pS, pN, pA, pC, pZ]
   refine do_ rfl (.bool true) (ex_pick (b := true) rfl) ?_
   simp only [pS, pN, pA, pC, pZ]
   refine do_ rfl (.bool true) (ex_assign _) ?_
   simp only [pS, pN, pA, pC, pZ]
   refine wl_nil (hK171 _ _ ?_)
   refine wp_ret ?_
   (try simp only [Exit.then, Exit.inBlock, ↓reduceIte, Nat.reduceEqDiff])
   refine bodyPost_ret (v := (.bool true)) ?_ rfl ?_
   ·exact res_t rfl rfl
   ·exact ⟨rfl, S177.gr.below⟩
  ·refine do_ rfl (.bool false) (ex_eql (m := ((l0.length : Nat) : Int)) (n := (0 : Int)) (b := false) rfl rfl (beq_eq_false_iff_ne.2 (by omega))) ?_
   simp only [pS, pN, pA, pC, pZ]
   refine do_ rfl (.bool false) (ex_move _) ?_
   simp only [pS, pN, pA, pC, pZ]
   refine do_ rfl (.slice a109 cs.length c110) (ex_move _) ?_
   simp only [pS, pN, pA, pC, pZ]
   refine do_ rfl (.int .i64 ((cs.length : Nat) : Int)) (ex_len Tryd.underlying60 rfl) ?_
   simp only [pS, pN, pA, pC, pZ]
   refine do_ rfl (.bool true) (ex_gtr (m := ((cs.length : Nat) : Int)) (n := (0 : Int)) (b := true) rfl rfl (decide_eq_true (by have := hcp (by omega) (by omega); omega))) ?_
   simp only [pS, pN, pA, pC, pZ]
   refine do_ rfl (.bool true) (ex_pick (b := false) rfl) ?_
   simp only [pS, pN, pA, pC, pZ]
   refine do_ rfl (.bool true) (ex_pick (b := true) rfl) ?_
   simp only [pS, pN, pA, pC, pZ]
   refine do_ rfl (.bool true) (ex_assign _) ?_
   simp only [pS, pN, pA, pC, pZ]
   refine wl_nil (hK171 _ _ ?_)
   refine wp_ret ?_
   (try simp only [Exit.then, Exit.inBlock, ↓reduceIte, Nat.reduceEqDiff])
   refine bodyPost_ret (v := (.bool true)) ?_ rfl ?_
   ·exact res_t rfl rfl
   ·exact ⟨rfl, S177.gr.below⟩
 ·have hww : (wholeN cs kn) < cs.length := by exact whole_lt hh.ok (by omega)
  refine region_wl ?_
  refine do_ rfl (.bool true) (ex_move _) ?_
  simp only [pS, pN, pA, pC, pZ]
  refine do_ rfl (.bool true) (ex_move _) ?_
  simp only [pS, pN, pA, pC, pZ]
  refine do_ rfl (.int .i64 0) (ex_move _) ?_
  simp only [pS, pN, pA, pC, pZ]
  refine do_ rfl (.bool true) (ex_eql (b := true) rfl rfl (by decide)) ?_
  simp only [pS, pN, pA, pC, pZ]
  refine do_ rfl (.bool true) (ex_pick (b := true) rfl) ?_
  simp only [pS, pN, pA, pC, pZ]
  refine do_ rfl (.bool true) (ex_move _) ?_
  simp only [pS, pN, pA, pC, pZ]
  refine do_ rfl (.int .i64 0) (ex_move _) ?_
  simp only [pS, pN, pA, pC, pZ]
  refine do_ rfl (.bool true) (ex_eql (b := true) rfl rfl (by decide)) ?_
  simp only [pS, pN, pA, pC, pZ]
  refine do_ rfl (.bool true) (ex_pick (b := true) rfl) ?_
  simp only [pS, pN, pA, pC, pZ]
  refine do_ rfl (.bool true) (ex_move _) ?_
  simp only [pS, pN, pA, pC, pZ]
  refine do_ rfl (.slice a140 (cs.take (wholeN cs kn)).length c141) (ex_move _) ?_
  simp only [pS, pN, pA, pC, pZ]
  refine do_ rfl (.slice a109 cs.length c110) (ex_move _) ?_
  simp only [pS, pN, pA, pC, pZ]
  refine stTells (v := (.bool true)) S170 rfl (ex_fn (vs := #[(.slice a140 (cs.take (wholeN cs kn)).length c141), (.slice a109 cs.length c110)]) (map2 rfl rfl) rfl (ent_33 _ _)) (begins_is _ _ _ _ (cs.take (wholeN cs kn)) cs (S170).sat (r144.mono le156) (R107.mono ((le117.trans le137).trans le156)) (pre_take _ _)) (fun w178 S179 => ?_)
  simp only [pS, pN, pA, pC, pZ]
  refine do_ rfl (.bool true) (ex_pick (b := true) rfl) ?_
  simp only [pS, pN, pA, pC, pZ]
  refine do_ rfl (.bool true) (ex_move _) ?_
  simp only [pS, pN, pA, pC, pZ]
  refine do_ rfl (.slice a159 (cs.take (wholeN cs kn)).length c160) (ex_move _) ?_
  simp only [pS, pN, pA, pC, pZ]
  refine do_ rfl (.slice a140 (cs.take (wholeN cs kn)).length c141) (ex_move _) ?_
  simp only [pS, pN, pA, pC, pZ]
  refine stTells (v := (.bool true)) S179 rfl (ex_fn (vs := #[(.slice a159 (cs.take (wholeN cs kn)).length c160), (.slice a140 (cs.take (wholeN cs kn)).length c141)]) (map2 rfl rfl) rfl (ent_33 _ _)) (begins_is _ _ _ _ (cs.take (wholeN cs kn)) (cs.take (wholeN cs kn)) (S179).sat r163 (r144.mono le156) (pre_refl _)) (fun w180 S181 => ?_)
  simp only [pS, pN, pA, pC, pZ]
  refine do_ rfl (.bool true) (ex_pick (b := true) rfl) ?_
  simp only [pS, pN, pA, pC, pZ]
  refine do_ rfl (.bool true) (ex_move _) ?_
  simp only [pS, pN, pA, pC, pZ]
  refine do_ rfl (.slice a159 (cs.take (wholeN cs kn)).length c160) (ex_move _) ?_
  simp only [pS, pN, pA, pC, pZ]
  refine do_ rfl (.int .i64 (((cs.take (wholeN cs kn)).length : Nat) : Int)) (ex_len Tryd.underlying60 rfl) ?_
  simp only [pS, pN, pA, pC, pZ]
  refine do_ rfl (.slice a140 (cs.take (wholeN cs kn)).length c141) (ex_move _) ?_
  simp only [pS, pN, pA, pC, pZ]
  refine do_ rfl (.int .i64 (((cs.take (wholeN cs kn)).length : Nat) : Int)) (ex_len Tryd.underlying60 rfl) ?_
  simp only [pS, pN, pA, pC, pZ]
  refine do_ rfl (.bool true) (ex_eql (m := (((cs.take (wholeN cs kn)).length : Nat) : Int)) (n := (((cs.take (wholeN cs kn)).length : Nat) : Int)) (b := true) rfl rfl (beq_iff_eq.2 (rfl))) ?_
  simp only [pS, pN, pA, pC, pZ]
  refine do_ rfl (.bool true) (ex_pick (b := true) rfl) ?_
  simp only [pS, pN, pA, pC, pZ]
  refine do_ rfl (.bool true) (ex_move _) ?_
  simp only [pS, pN, pA, pC, pZ]
  refine do_ rfl (.pointer (some ⟨n147, 0, none⟩)) (ex_field (q := ⟨n147, 0, none⟩) rfl (fa_67_0 _ _)) ?_
  simp only [pS, pN, pA, pC, pZ]
  refine do_ rfl (.slice a142 (tapeB (cs.take (wholeN cs kn))).length c143) (ex_load rfl (load1 (nagg_23 _) (St.cell S181 (i := 1) rfl rfl))) ?_
  simp only [pS, pN, pA, pC, pZ]
  refine do_ rfl (.int .i64 (((tapeB (cs.take (wholeN cs kn))).length : Nat) : Int)) (ex_len Tryd.underlying23 rfl) ?_
  simp only [pS, pN, pA, pC, pZ]
  refine do_ rfl (.int .i64 ((kn : Nat) : Int)) (ex_move _) ?_
  simp only [pS, pN, pA, pC, pZ]
  refine do_ rfl (.bool true) (ex_leq (m := (((tapeB (cs.take (wholeN cs kn))).length : Nat) : Int)) (n := ((kn : Nat) : Int)) (b := true) rfl rfl (decide_eq_true (by have := whole_len cs kn; omega))) ?_
  simp only [pS, pN, pA, pC, pZ]
  refine do_ rfl (.bool true) (ex_pick (b := true) rfl) ?_
  simp only [pS, pN, pA, pC, pZ]
  refine do_ rfl (.bool true) (ex_move _) ?_
  simp only [pS, pN, pA, pC, pZ]
  refine do_ rfl (.pointer (some ⟨n147, 0, none⟩)) (ex_field (q := ⟨n147, 0, none⟩) rfl (fa_67_0 _ _)) ?_
  simp only [pS, pN, pA, pC, pZ]
  refine do_ rfl (.slice a142 (tapeB (cs.take (wholeN cs kn))).length c143) (ex_load rfl (load1 (nagg_23 _) (St.cell S181 (i := 1) rfl rfl))) ?_
  simp only [pS, pN, pA, pC, pZ]
  refine do_ rfl (.pointer (some ⟨n166, 0, none⟩)) (ex_field (q := ⟨n166, 0, none⟩) rfl (fa_67_0 _ _)) ?_
  simp only [pS, pN, pA, pC, pZ]
  refine do_ rfl (.slice a161 (tapeB (cs.take (wholeN cs kn))).length c162) (ex_load rfl (load1 (nagg_23 _) (St.cell S181 (i := 0) rfl rfl))) ?_
  simp only [pS, pN, pA, pC, pZ]
  refine stTells (v := (.bool true)) S181 rfl (ex_fn (vs := #[(.slice a142 (tapeB (cs.take (wholeN cs kn))).length c143), (.slice a161 (tapeB (cs.take (wholeN cs kn))).length c162)]) (map2 rfl rfl) rfl (ent_19 _ _)) (tells_bool (tells_same (same_spec _ _ _ _ (tapeB (cs.take (wholeN cs kn))) (tapeB (cs.take (wholeN cs kn))) (S181).sat (r145.mono le156) r164)) (beq_iff_eq.2 (rfl))) (fun w182 S183 => ?_)
  simp only [pS, pN, pA, pC, pZ]
  refine do_ rfl (.bool true) (ex_pick (b := true) rfl) ?_
  simp only [pS, pN, pA, pC, pZ]
  refine do_ rfl (.bool true) (ex_move _) ?_
  simp only [pS, pN, pA, pC, pZ]
  refine do_ rfl (.slice a140 (cs.take (wholeN cs kn)).length c141) (ex_move _) ?_
  simp only [pS, pN, pA, pC, pZ]
  refine do_ rfl (.int .i64 (((cs.take (wholeN cs kn)).length : Nat) : Int)) (ex_len Tryd.underlying60 rfl) ?_
  simp only [pS, pN, pA, pC, pZ]
  refine do_ rfl (.slice a109 cs.length c110) (ex_move _) ?_
  simp only [pS, pN, pA, pC, pZ]
  refine do_ rfl (.int .i64 ((cs.length : Nat) : Int)) (ex_len Tryd.underlying60 rfl) ?_
  simp only [pS, pN, pA, pC, pZ]
  refine do_ rfl (.bool false) (ex_eql (m := (((cs.take (wholeN cs kn)).length : Nat) : Int)) (n := ((cs.length : Nat) : Int)) (b := false) rfl rfl (beq_eq_false_iff_ne.2 (by omega))) ?_
  simp only [pS, pN, pA, pC, pZ]
  refine do_ rfl (.int .i64 ((kn : Nat) : Int)) (ex_move _) ?_
  simp only [pS, pN, pA, pC, pZ]
  refine do_ rfl (.pointer (some ⟨n124, 0, none⟩)) (ex_field (q := ⟨n124, 0, none⟩) rfl (fa_67_0 _ _)) ?_
  simp only [pS, pN, pA, pC, pZ]
  refine do_ rfl (.slice a121 (tapeB cs).length c122) (ex_load rfl (load1 (nagg_23 _) (St.cell S183 (i := 2) rfl rfl))) ?_
  simp only [pS, pN, pA, pC, pZ]
  refine do_ rfl (.int .i64 (((tapeB cs).length : Nat) : Int)) (ex_len Tryd.underlying23 rfl) ?_
  simp only [pS, pN, pA, pC, pZ]
  refine do_ rfl (.bool false) (ex_eql (m := ((kn : Nat) : Int)) (n := (((tapeB cs).length : Nat) : Int)) (b := false) rfl rfl (beq_eq_false_iff_ne.2 (by omega))) ?_
  simp only [pS, pN, pA, pC, pZ]
  refine do_ rfl (.bool true) (ex_eqlB Tryd.underlying4 rfl rfl (rfl)) ?_
  simp only [pS, pN, pA, pC, pZ]
  refine do_ rfl (.bool true) (ex_pick (b := true) rfl) ?_
  simp only [pS, pN, pA, pC, pZ]
  refine do_ rfl (.bool true) (ex_move _) ?_
  simp only [pS, pN, pA, pC, pZ]
  refine do_ rfl (.slice a0 l0.length c0) (ex_move _) ?_
  simp only [pS, pN, pA, pC, pZ]
  refine do_ rfl (.int .i64 ((l0.length : Nat) : Int)) (ex_len Tryd.underlying22 rfl) ?_
  simp only [pS, pN, pA, pC, pZ]
  by_cases hc103 : l0.length = 0
  ·refine do_ rfl (.bool true) (ex_eql (m := ((l0.length : Nat) : Int)) (n := (0 : Int)) (b := true) rfl rfl (beq_iff_eq.2 (by omega))) ?_
   simp only [pS, pN, pA, pC, pZ]
   refine do_ rfl (.bool true) (ex_move _) ?_
   simp only [pS, pN, pA, pC, pZ]
   refine doN (wanted_no rfl rfl rfl (c := true) rfl (by decide)) ?_
   simp only [pS, pN, pA, pC, pZ]
   refine doN (wanted_no rfl rfl rfl (c := true) rfl (by decide)) ?_
   simp only [pS, pN, pA, pC, pZ]
   refine doN (wanted_no rfl rfl rfl (c := true) rfl (by decide)) ?_
   simp only [pS, pN, pA, pC, pZ]
   refine do_ rfl (.bool true) (ex_pick (b := true) rfl) ?_
   simp only [pS, pN, pA, pC, pZ]
   refine do_ rfl (.bool true) (ex_pick (b := true) rfl) ?_
   simp only [pS, pN, pA, pC, pZ]
   refine do_ rfl (.bool true) (ex_assign _) ?_
   simp only [pS, pN, pA, pC, pZ]
   refine wl_nil (hK171 _ _ ?_)
   refine wp_ret ?_
   (try simp only [Exit.then, Exit.inBlock, ↓reduceIte, Nat.reduceEqDiff])
   refine bodyPost_ret (v := (.bool true)) ?_ rfl ?_
   ·exact res_t rfl rfl
   ·exact ⟨rfl, S183.gr.below⟩
  ·refine do_ rfl (.bool false) (ex_eql (m := ((l0.length : Nat) : Int)) (n := (0 : Int)) (b := false) rfl rfl (beq_eq_false_iff_ne.2 (by omega))) ?_
   simp only [pS, pN, pA, pC, pZ]
   refine do_ rfl (.bool false) (ex_move _) ?_
   simp only [pS, pN, pA, pC, pZ]
   refine do_ rfl (.slice a109 cs.length c110) (ex_move _) ?_
   simp only [pS, pN, pA, pC, pZ]
   refine do_ rfl (.int .i64 ((cs.length : Nat) : Int)) (ex_len Tryd.underlying60 rfl) ?_
   simp only [pS, pN, pA, pC, pZ]
   refine do_ rfl (.bool true) (ex_gtr (m := ((cs.length : Nat) : Int)) (n := (0 : Int)) (b := true) rfl rfl (decide_eq_true (by have := hcp (by omega) (by omega); omega))) ?_
   simp only [pS, pN, pA, pC, pZ]
   refine do_ rfl (.bool true) (ex_pick (b := false) rfl) ?_
   simp only [pS, pN, pA, pC, pZ]
   refine do_ rfl (.bool true) (ex_pick (b := true) rfl) ?_
   simp only [pS, pN, pA, pC, pZ]
   refine do_ rfl (.bool true) (ex_assign _) ?_
   simp only [pS, pN, pA, pC, pZ]
   refine wl_nil (hK171 _ _ ?_)
   refine wp_ret ?_
   (try simp only [Exit.then, Exit.inBlock, ↓reduceIte, Nat.reduceEqDiff])
   refine bodyPost_ret (v := (.bool true)) ?_ rfl ?_
   ·exact res_t rfl rfl
   ·exact ⟨rfl, S183.gr.below⟩
end Go.Proofs.YtikklmjengkliaaDoor
