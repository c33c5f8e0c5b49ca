/- The walk of TapeBack -/
import Derived.Test.YtikklmjengkliaaDoorBT11
namespace Go.Proofs.YtikklmjengkliaaDoor
open Go.RowKit
set_option maxRecDepth 100000
set_option linter.unusedVariables false
set_option linter.unusedSimpArgs false
set_option maxHeartbeats 8000000 in
theorem tapeBack_walk (W : World) (hT : Tabs W) (v0 : Value) (l0 : List Pl) (z0 : Pls (whole W) v0 l0) :
    Calls Tryd.prog 9 #[v0] W (Tells W (.bool true)) := by
 obtain ⟨a0, c0, rfl, q0, q0'⟩ := Sl.shape z0
 obtain ⟨i5, hi5, hz5, hs5, hb5⟩ := info_parts infoU8
 have S := St.start (Sat.whole W)
 go_enter Tryd.func9, Tryd.ntmps9
 refine wp_seq_k (fun K101 hK101 => region_wl ?_)
 refine do_ rfl (.bool false) (ex_assign _) ?_
 simp only [pS, pN, pA, pC, pZ]
 refine wl_nil (hK101 _ _ ?_)
 refine wp_seq_k (fun K102 hK102 => region_wl ?_)
 refine do_ rfl (.slice a0 l0.length c0) (ex_move _) ?_
 simp only [pS, pN, pA, pC, pZ]
 refine stGives S rfl (ex_fn (vs := #[(.slice a0 l0.length c0), (.int .i64 16)]) (map2 rfl rfl) rfl (ent_25 _ _)) (commitsN_spec _ _ _ l0 16 (S).sat z0 (by omega)) ?_
 intro v108 w103 F105 S104 le106 R107
 obtain ⟨cs, R107, hh, hcl, hcp⟩ := R107
 obtain ⟨a109, c110, rfl, h111, h112⟩ := Sl.shape R107
 unfold maxLen at h112
 have htl := tapeB_len_le hh.ok
 simp only [pS, pN, pA, pC, pZ]
 refine do_ rfl (.slice a109 cs.length c110) (ex_assign _) ?_
 simp only [pS, pN, pA, pC, pZ]
 refine wl_nil (hK102 _ _ ?_)
 refine wp_seq_k (fun K113 hK113 => region_wl ?_)
 refine do_ rfl (.slice a109 cs.length c110) (ex_move _) ?_
 simp only [pS, pN, pA, pC, pZ]
 refine stGives S104 rfl (ex_fn (vs := #[(.slice a109 cs.length c110)]) (map1 rfl) rfl (ent_29 _ _)) (taped_spec _ _ _ cs (S104).sat (hT.at S104.gr.below) R107 hh.ok (by omega)) ?_
 intro v119 w114 F116 S115 le117 R118
 obtain ⟨_, rfl, R120⟩ := R118
 obtain ⟨a121, c122, rfl, r123⟩ := R120
 have r123 : Bs _ (.slice a121 (tapeB cs).length c122) (tapeB cs) := r123
 simp only [pS, pN, pA, pC, pZ]
 refine do_ rfl (.tuple #[(.agg #[(.slice a121 (tapeB cs).length c122), (.int .i64 0)]), (.bool true)]) (ex_move _) ?_
 simp only [pS, pN, pA, pC, pZ]
 refine do_ rfl (.agg #[(.slice a121 (tapeB cs).length c122), (.int .i64 0)]) (ex_extract rfl rfl) ?_
 simp only [pS, pN, pA, pC, pZ]
 refine do_ rfl (.bool true) (ex_extract rfl rfl) ?_
 simp only [pS, pN, pA, pC, pZ]
 refine stNew S115 (v := fun n => .pointer (some ⟨n, 0, none⟩)) rfl (ex_alloc (zero_67 _)) (fun n124 w125 S126 => ?_)
 simp only [pS, pN, pA, pC, pZ]
 have S126 : St W (whole W) w125 F116 [⟨n124, [(.slice none 0 0), (.int .i64 0)], 67⟩] [] := S126
 refine stStore (i := 0) (v := (.agg #[(.slice a121 (tapeB cs).length c122), (.int .i64 0)])) S126 rfl rfl rfl rfl (size_67) (allc2 rfl rfl) (Nat.le_of_ble_eq_true rfl) (fun w127 S128 => ?_)
 simp only [pS, pN, pA, pC, pZ]
 have S128 : St W (whole W) w127 F116 [⟨n124, [(.slice a121 (tapeB cs).length c122), (.int .i64 0)], 67⟩] [] := S128
 refine do_ rfl (.bool true) (ex_assign _) ?_
 simp only [pS, pN, pA, pC, pZ]
 refine wl_nil (hK113 _ _ ?_)
 refine wp_seq_k (fun K129 hK129 => region_wl ?_)
 refine do_ rfl (.agg #[(.slice a121 (tapeB cs).length c122), (.int .i64 0)]) (ex_load rfl (loadN (cs := [(.slice a121 (tapeB cs).length c122), (.int .i64 0)]) Tryd.underlying67 rfl (size_67) (St.range S128 (i := 0) rfl 0 [(.slice a121 (tapeB cs).length c122), (.int .i64 0)] (sub_range 0 rfl)))) ?_
 simp only [pS, pN, pA, pC, pZ]
 refine stGives S128 rfl (ex_fn (vs := #[(.agg #[(.slice a121 (tapeB cs).length c122), (.int .i64 0)])]) (map1 rfl) rfl (ent_32 _ _)) (recIs2_spec _ _ _ (⟨tapeB cs, 0⟩ : Tp) (S128).sat (hT.at S128.gr.below) ⟨_, _, rfl, r123⟩ (⟨by simp only; omega, Nat.zero_le _⟩) (rec_all hh) (List.take_length)) ?_
 intro v135 w130 F132 S131 le133 R134
 obtain ⟨a136, c137, a138, c139, rfl, r140, r141, h142⟩ := R134
 simp only [pS, pN, pA, pC, pZ]
 refine do_ rfl (.tuple #[(.slice a136 cs.length c137), (.agg #[(.slice a138 (tapeB cs).length c139), (.int .i64 (((min 0 (tapeB cs).length) : Nat) : Int))]), (.int .i64 0)]) (ex_move _) ?_
 simp only [pS, pN, pA, pC, pZ]
 refine do_ rfl (.slice a136 cs.length c137) (ex_extract rfl rfl) ?_
 simp only [pS, pN, pA, pC, pZ]
 refine do_ rfl (.agg #[(.slice a138 (tapeB cs).length c139), (.int .i64 (((min 0 (tapeB cs).length) : Nat) : Int))]) (ex_extract rfl rfl) ?_
 simp only [pS, pN, pA, pC, pZ]
 refine do_ rfl (.int .i64 0) (ex_extract rfl rfl) ?_
 simp only [pS, pN, pA, pC, pZ]
 refine stNew S131 (v := fun n => .pointer (some ⟨n, 0, none⟩)) rfl (ex_alloc (zero_67 _)) (fun n143 w144 S145 => ?_)
 simp only [pS, pN, pA, pC, pZ]
 have S145 : St W (whole W) w144 F132 [⟨n143, [(.slice none 0 0), (.int .i64 0)], 67⟩, ⟨n124, [(.slice a121 (tapeB cs).length c122), (.int .i64 0)], 67⟩] [] := S145
 refine do_ rfl (.slice a136 cs.length c137) (ex_assign _) ?_
 simp only [pS, pN, pA, pC, pZ]
 refine stStore (i := 0) (v := (.agg #[(.slice a138 (tapeB cs).length c139), (.int .i64 (((min 0 (tapeB cs).length) : Nat) : Int))])) S145 rfl rfl rfl rfl (size_67) (allc2 rfl rfl) (Nat.le_of_ble_eq_true rfl) (fun w146 S147 => ?_)
 simp only [pS, pN, pA, pC, pZ]
 have S147 : St W (whole W) w146 F132 [⟨n143, [(.slice a138 (tapeB cs).length c139), (.int .i64 (((min 0 (tapeB cs).length) : Nat) : Int))], 67⟩, ⟨n124, [(.slice a121 (tapeB cs).length c122), (.int .i64 0)], 67⟩] [] := S147
 refine do_ rfl (.int .i64 0) (ex_assign _) ?_
 simp only [pS, pN, pA, pC, pZ]
 refine wl_nil (hK129 _ _ ?_)
 refine wp_seq_k (fun K148 hK148 => region_wl ?_)
 refine do_ rfl (.bool true) (ex_move _) ?_
 simp only [pS, pN, pA, pC, pZ]
 refine do_ rfl (.bool true) (ex_move _) ?_
 simp only [pS, pN, pA, pC, pZ]
 refine do_ rfl (.int .i64 0) (ex_move _) ?_
 simp only [pS, pN, pA, pC, pZ]
 refine do_ rfl (.bool true) (ex_eql (b := true) rfl rfl (by decide)) ?_
 simp only [pS, pN, pA, pC, pZ]
 refine do_ rfl (.bool true) (ex_pick (b := true) rfl) ?_
 simp only [pS, pN, pA, pC, pZ]
 refine do_ rfl (.bool true) (ex_move _) ?_
 simp only [pS, pN, pA, pC, pZ]
 refine do_ rfl (.slice a136 cs.length c137) (ex_move _) ?_
 simp only [pS, pN, pA, pC, pZ]
 refine do_ rfl (.int .i64 ((cs.length : Nat) : Int)) (ex_len Tryd.underlying60 rfl) ?_
 simp only [pS, pN, pA, pC, pZ]
 refine do_ rfl (.slice a109 cs.length c110) (ex_move _) ?_
 simp only [pS, pN, pA, pC, pZ]
 refine do_ rfl (.int .i64 ((cs.length : Nat) : Int)) (ex_len Tryd.underlying60 rfl) ?_
 simp only [pS, pN, pA, pC, pZ]
 refine do_ rfl (.bool true) (ex_eql (m := ((cs.length : Nat) : Int)) (n := ((cs.length : Nat) : Int)) (b := true) rfl rfl (beq_iff_eq.2 (rfl))) ?_
 simp only [pS, pN, pA, pC, pZ]
 refine do_ rfl (.bool true) (ex_pick (b := true) rfl) ?_
 simp only [pS, pN, pA, pC, pZ]
 refine do_ rfl (.bool true) (ex_move _) ?_
 simp only [pS, pN, pA, pC, pZ]
 refine do_ rfl (.slice a136 cs.length c137) (ex_move _) ?_
 simp only [pS, pN, pA, pC, pZ]
 refine do_ rfl (.slice a109 cs.length c110) (ex_move _) ?_
 simp only [pS, pN, pA, pC, pZ]
 refine stTells (v := (.bool true)) S147 rfl (ex_fn (vs := #[(.slice a136 cs.length c137), (.slice a109 cs.length c110)]) (map2 rfl rfl) rfl (ent_33 _ _)) (begins_is _ _ _ _ cs cs (S147).sat r140 (R107.mono (le117.trans le133)) (pre_refl _)) (fun w149 S150 => ?_)
 simp only [pS, pN, pA, pC, pZ]
 refine do_ rfl (.bool true) (ex_pick (b := true) rfl) ?_
 simp only [pS, pN, pA, pC, pZ]
 refine do_ rfl (.bool true) (ex_move _) ?_
 simp only [pS, pN, pA, pC, pZ]
 refine do_ rfl (.pointer (some ⟨n143, 0, none⟩)) (ex_field (q := ⟨n143, 0, none⟩) rfl (fa_67_0 _ _)) ?_
 simp only [pS, pN, pA, pC, pZ]
 refine do_ rfl (.slice a138 (tapeB cs).length c139) (ex_load rfl (load1 (nagg_23 _) (St.cell S150 (i := 0) rfl rfl))) ?_
 simp only [pS, pN, pA, pC, pZ]
 refine do_ rfl (.pointer (some ⟨n124, 0, none⟩)) (ex_field (q := ⟨n124, 0, none⟩) rfl (fa_67_0 _ _)) ?_
 simp only [pS, pN, pA, pC, pZ]
 refine do_ rfl (.slice a121 (tapeB cs).length c122) (ex_load rfl (load1 (nagg_23 _) (St.cell S150 (i := 1) rfl rfl))) ?_
 simp only [pS, pN, pA, pC, pZ]
 refine stTells (v := (.bool true)) S150 rfl (ex_fn (vs := #[(.slice a138 (tapeB cs).length c139), (.slice a121 (tapeB cs).length c122)]) (map2 rfl rfl) rfl (ent_19 _ _)) (tells_bool (tells_same (same_spec _ _ _ _ (tapeB cs) (tapeB cs) (S150).sat r141 (r123.mono le133))) (beq_iff_eq.2 (rfl))) (fun w151 S152 => ?_)
 simp only [pS, pN, pA, pC, pZ]
 refine do_ rfl (.bool true) (ex_pick (b := true) rfl) ?_
 simp only [pS, pN, pA, pC, pZ]
 refine do_ rfl (.bool true) (ex_move _) ?_
 simp only [pS, pN, pA, pC, pZ]
 refine do_ rfl (.pointer (some ⟨n143, 1, none⟩)) (ex_field (q := ⟨n143, 1, none⟩) rfl (fa_67_1 _ _)) ?_
 simp only [pS, pN, pA, pC, pZ]
 refine do_ rfl (.int .i64 (((min 0 (tapeB cs).length) : Nat) : Int)) (ex_load rfl (load1 (nagg_3 _) (St.cell S152 (i := 0) rfl rfl))) ?_
 simp only [pS, pN, pA, pC, pZ]
 refine do_ rfl (.bool true) (ex_eql (m := (((min 0 (tapeB cs).length) : Nat) : Int)) (n := (0 : Int)) (b := true) rfl rfl (beq_iff_eq.2 (by omega))) ?_
 simp only [pS, pN, pA, pC, pZ]
 refine do_ rfl (.bool true) (ex_pick (b := true) rfl) ?_
 simp only [pS, pN, pA, pC, pZ]
 refine do_ rfl (.bool true) (ex_move _) ?_
 simp only [pS, pN, pA, pC, pZ]
 refine do_ rfl (.slice a0 l0.length c0) (ex_move _) ?_
 simp only [pS, pN, pA, pC, pZ]
 refine do_ rfl (.int .i64 ((l0.length : Nat) : Int)) (ex_len Tryd.underlying22 rfl) ?_
 simp only [pS, pN, pA, pC, pZ]
 by_cases hc54 : l0.length = 0
 ·refine do_ rfl (.bool true) (ex_eql (m := ((l0.length : Nat) : Int)) (n := (0 : Int)) (b := true) rfl rfl (beq_iff_eq.2 (by omega))) ?_
  simp only [pS, pN, pA, pC, pZ]
  refine do_ rfl (.bool true) (ex_move _) ?_
  simp only [pS, pN, pA, pC, pZ]
  refine doN (wanted_no rfl rfl rfl (c := true) rfl (by decide)) ?_
  simp only [pS, pN, pA, pC, pZ]
  refine doN (wanted_no rfl rfl rfl (c := true) rfl (by decide)) ?_
  simp only [pS, pN, pA, pC, pZ]
  refine doN (wanted_no rfl rfl rfl (c := true) rfl (by decide)) ?_
  simp only [pS, pN, pA, pC, pZ]
  refine do_ rfl (.bool true) (ex_pick (b := true) rfl) ?_
  simp only [pS, pN, pA, pC, pZ]
  refine do_ rfl (.bool true) (ex_pick (b := true) rfl) ?_
  simp only [pS, pN, pA, pC, pZ]
  refine do_ rfl (.bool true) (ex_assign _) ?_
  simp only [pS, pN, pA, pC, pZ]
  refine wl_nil (hK148 _ _ ?_)
  refine wp_ret ?_
  (try simp only [Exit.then, Exit.inBlock, ↓reduceIte, Nat.reduceEqDiff])
  refine bodyPost_ret (v := (.bool true)) ?_ rfl ?_
  ·exact res_t rfl rfl
  ·exact ⟨rfl, S152.gr.below⟩
 ·refine do_ rfl (.bool false) (ex_eql (m := ((l0.length : Nat) : Int)) (n := (0 : Int)) (b := false) rfl rfl (beq_eq_false_iff_ne.2 (by omega))) ?_
  simp only [pS, pN, pA, pC, pZ]
  refine do_ rfl (.bool false) (ex_move _) ?_
  simp only [pS, pN, pA, pC, pZ]
  refine do_ rfl (.slice a109 cs.length c110) (ex_move _) ?_
  simp only [pS, pN, pA, pC, pZ]
  refine do_ rfl (.int .i64 ((cs.length : Nat) : Int)) (ex_len Tryd.underlying60 rfl) ?_
  simp only [pS, pN, pA, pC, pZ]
  refine do_ rfl (.bool true) (ex_gtr (m := ((cs.length : Nat) : Int)) (n := (0 : Int)) (b := true) rfl rfl (decide_eq_true (by have := hcp (by omega) (by omega); omega))) ?_
  simp only [pS, pN, pA, pC, pZ]
  refine do_ rfl (.bool true) (ex_pick (b := false) rfl) ?_
  simp only [pS, pN, pA, pC, pZ]
  refine do_ rfl (.bool true) (ex_pick (b := true) rfl) ?_
  simp only [pS, pN, pA, pC, pZ]
  refine do_ rfl (.bool true) (ex_assign _) ?_
  simp only [pS, pN, pA, pC, pZ]
  refine wl_nil (hK148 _ _ ?_)
  refine wp_ret ?_
  (try simp only [Exit.then, Exit.inBlock, ↓reduceIte, Nat.reduceEqDiff])
  refine bodyPost_ret (v := (.bool true)) ?_ rfl ?_
  ·exact res_t rfl rfl
  ·exact ⟨rfl, S152.gr.below⟩
end Go.Proofs.YtikklmjengkliaaDoor
