/- The walk of TapeOn -/
import Derived.Test.YtikklmjengkliaaDoorBT11
namespace Go.Proofs.YtikklmjengkliaaDoor
open Go.RowKit
set_option maxRecDepth 100000
set_option linter.unusedVariables false
set_option linter.unusedSimpArgs false
set_option maxHeartbeats 8000000 in
theorem tapeOn_walk (W : World) (hT : Tabs W) (v0 : Value) (l0 : List Pl) (z0 : Pls (whole W) v0 l0) (p1 : Pl) (v10 : Value) (z10 : Bs (whole W) v10 p1.name) (v11 : Value) (z11 : Bs (whole W) v11 p1.key) (v12 : Value) (z12 : Bs (whole W) v12 p1.value) (x2 : Int) (b2 : -9223372036854775808 ≤ x2) (b2' : x2 ≤ 9223372036854775807) :
    Calls Tryd.prog 12 #[v0, .agg #[v10, v11, v12, .bool p1.gone], .int .i64 x2] W (Tells W (.bool true)) := by
 obtain ⟨a0, c0, rfl, q0, q0'⟩ := Sl.shape z0
 obtain ⟨a10, c10, rfl, _⟩ := z10.shape
 obtain ⟨a11, c11, rfl, _⟩ := z11.shape
 obtain ⟨a12, c12, rfl, _⟩ := z12.shape
 obtain ⟨i5, hi5, hz5, hs5, hb5⟩ := info_parts infoU8
 have S := St.start (Sat.whole W)
 go_enter Tryd.func12, Tryd.ntmps12
 refine wp_seq_k (fun K101 hK101 => region_wl ?_)
 refine stNew S (v := fun n => .pointer (some ⟨n, 0, none⟩)) rfl (ex_box (v := (.agg #[(.slice a10 p1.name.length c10), (.slice a11 p1.key.length c11), (.slice a12 p1.value.length c12), (.bool p1.gone)])) rfl) (fun n102 w103 S104 => ?_)
 simp only [pS, pN, pA, pC, pZ]
 have S104 : St W (whole W) w103 (whole W) [⟨n102, [(.slice a10 p1.name.length c10), (.slice a11 p1.key.length c11), (.slice a12 p1.value.length c12), (.bool p1.gone)], 45⟩] [] := S104
 refine do_ rfl (.bool false) (ex_assign _) ?_
 simp only [pS, pN, pA, pC, pZ]
 refine wl_nil (hK101 _ _ ?_)
 refine wp_seq_k (fun K105 hK105 => region_wl ?_)
 refine do_ rfl (.slice a0 l0.length c0) (ex_move _) ?_
 simp only [pS, pN, pA, pC, pZ]
 refine stGives S104 rfl (ex_fn (vs := #[(.slice a0 l0.length c0), (.int .i64 12)]) (map2 rfl rfl) rfl (ent_25 _ _)) (commitsN_spec _ _ _ l0 12 (S104).sat z0 (by omega)) ?_
 intro v111 w106 F108 S107 le109 R110
 obtain ⟨cs, R110, hh, hcl, hcp⟩ := R110
 obtain ⟨a112, c113, rfl, h114, h115⟩ := Sl.shape R110
 unfold maxLen at h115
 have htl := tapeB_len_le hh.ok
 simp only [pS, pN, pA, pC, pZ]
 refine do_ rfl (.slice a112 cs.length c113) (ex_assign _) ?_
 simp only [pS, pN, pA, pC, pZ]
 refine wl_nil (hK105 _ _ ?_)
 refine wp_seq_k (fun K116 hK116 => region_wl ?_)
 refine do_ rfl (.slice a112 cs.length c113) (ex_move _) ?_
 simp only [pS, pN, pA, pC, pZ]
 refine stGives S107 rfl (ex_fn (vs := #[(.slice a112 cs.length c113)]) (map1 rfl) rfl (ent_29 _ _)) (taped_spec _ _ _ cs (S107).sat (hT.at S107.gr.below) R110 hh.ok (by omega)) ?_
 intro v122 w117 F119 S118 le120 R121
 obtain ⟨_, rfl, R123⟩ := R121
 obtain ⟨a124, c125, rfl, r126⟩ := R123
 have r126 : Bs _ (.slice a124 (tapeB cs).length c125) (tapeB cs) := r126
 simp only [pS, pN, pA, pC, pZ]
 refine do_ rfl (.tuple #[(.agg #[(.slice a124 (tapeB cs).length c125), (.int .i64 0)]), (.bool true)]) (ex_move _) ?_
 simp only [pS, pN, pA, pC, pZ]
 refine do_ rfl (.agg #[(.slice a124 (tapeB cs).length c125), (.int .i64 0)]) (ex_extract rfl rfl) ?_
 simp only [pS, pN, pA, pC, pZ]
 refine do_ rfl (.bool true) (ex_extract rfl rfl) ?_
 simp only [pS, pN, pA, pC, pZ]
 refine stNew S118 (v := fun n => .pointer (some ⟨n, 0, none⟩)) rfl (ex_alloc (zero_67 _)) (fun n127 w128 S129 => ?_)
 simp only [pS, pN, pA, pC, pZ]
 have S129 : St W (whole W) w128 F119 [⟨n127, [(.slice none 0 0), (.int .i64 0)], 67⟩, ⟨n102, [(.slice a10 p1.name.length c10), (.slice a11 p1.key.length c11), (.slice a12 p1.value.length c12), (.bool p1.gone)], 45⟩] [] := S129
 refine stStore (i := 0) (v := (.agg #[(.slice a124 (tapeB cs).length c125), (.int .i64 0)])) S129 rfl rfl rfl rfl (size_67) (allc2 rfl rfl) (Nat.le_of_ble_eq_true rfl) (fun w130 S131 => ?_)
 simp only [pS, pN, pA, pC, pZ]
 have S131 : St W (whole W) w130 F119 [⟨n127, [(.slice a124 (tapeB cs).length c125), (.int .i64 0)], 67⟩, ⟨n102, [(.slice a10 p1.name.length c10), (.slice a11 p1.key.length c11), (.slice a12 p1.value.length c12), (.bool p1.gone)], 45⟩] [] := S131
 refine do_ rfl (.bool true) (ex_assign _) ?_
 simp only [pS, pN, pA, pC, pZ]
 refine wl_nil (hK116 _ _ ?_)
 refine wp_seq_k (fun K132 hK132 => ?_)
 obtain ⟨hp0kn, hp1kn⟩ := pick_bd x2 (200 : Int) (by omega)
 obtain ⟨kn, hkn⟩ : ∃ k : Nat, pick x2 (200 : Int) = (k : Int) := ⟨(pick x2 (200 : Int)).toNat, (Int.toNat_of_nonneg hp0kn).symm⟩
 have hkb : kn < 200 := by omega
 obtain ⟨N, hNe⟩ : ∃ N, N = crashN ⟨tapeB cs, 0⟩ kn := ⟨_, rfl⟩
 have hN : N ≤ (tapeB cs).length := by rw [hNe]; unfold crashN; simp only; omega
 have htw := whole_len cs N
 have hlw : (cs.take (wholeN cs N)).length ≤ 16 := by rw [List.length_take]; omega
 refine region_late F119 [0, 1, 2, 3, 4, 5] 6 7 [8] [(2, .is (.int .i64 ((kn : Nat) : Int))), (3, .made (fun F' u => TpeV (⟨(tapeB cs).take N, N⟩ : Tp) 0 F' u)), (5, .made (fun F' u => TpV F' u (⟨(tapeB cs).take N, N⟩ : Tp))), (6, .is (.int .i64 0))] (by kernel_rfl) (by kernel_rfl) rfl rfl rfl rfl ?_
 simp only [opsAt, List.getElem?_cons_succ, List.getElem?_cons_zero, List.map_cons, List.map_nil]
 refine gp_pure rfl rfl (.agg #[(.slice a124 (tapeB cs).length c125), (.int .i64 0)]) (fun w133 hCw133 => pureAt_of (ex_load rfl (loadN (cs := [(.slice a124 (tapeB cs).length c125), (.int .i64 0)]) Tryd.underlying67 rfl (size_67) (St.range (St.tells S131 hCw133) (i := 0) rfl 0 [(.slice a124 (tapeB cs).length c125), (.int .i64 0)] (sub_range 0 rfl))))) ?_
 simp only [pS, pN, pA, pC, pZ]
 refine gp_pure rfl rfl (.int .i64 x2) (fun w133 hCw133 => pureAt_of (ex_move _)) ?_
 simp only [pS, pN, pA, pC, pZ]
 refine gp_const rfl rfl (v := (.int .i64 ((kn : Nat) : Int))) (fun w133 hCw133 _ => does_call (ex_fn (vs := #[(.int .i64 x2), (.int .i64 200)]) (map2 rfl rfl) rfl (ent_15 _ _)) (call_tells (hkn ▸ tells_same (picked_spec x2 (200 : Int) _ b2 b2' (by omega) (by omega))))) ?_
 simp only [pS, pN, pA, pC, pZ]
 refine gp_rel rfl rfl (fun w133 hCw133 hF => does_call (ex_fn (vs := #[(.agg #[(.slice a124 (tapeB cs).length c125), (.int .i64 0)]), (.int .i64 ((kn : Nat) : Int))]) (map2 rfl rfl) rfl (ent_35 _ _)) (call_made S131.sat hCw133 (crashIs_spec _ _ _ (⟨tapeB cs, 0⟩ : Tp) kn (⟨(tapeB cs).take N, N⟩ : Tp) ((St.tells S131 hCw133)).sat ⟨_, _, rfl, r126⟩ (⟨by simp only; omega, Nat.zero_le _⟩) (by omega) hNe (congrArg (fun z => (tapeB cs).take z) hNe)))) (fun v134 => ?_)
 simp only [pS, pN, pA, pC, pZ]
 refine gp_pure rfl rfl v134 (fun w133 hCw133 => pureAt_of (ex_move _)) ?_
 simp only [pS, pN, pA, pC, pZ]
 refine gp_rel rfl rfl (fun w133 hCw133 hF_ => ?_) (fun v139 => ?_)
 ·obtain ⟨F135, g136, _, rfl, hx138⟩ := hF_.get 3 (by kernel_rfl) rfl rfl
  exact does_val (ex_extract rfl rfl) ⟨F135, g136, hx138⟩ (Below.refl _ _)
 simp only [pS, pN, pA, pC, pZ]
 refine gp_nil (late_ rfl rfl (v := (.int .i64 0)) (fun w133 hCw133 hF_ => ?_) ?_)
 ·obtain ⟨F140, g141, _, rfl, hx142⟩ := hF_.get 3 (by kernel_rfl) rfl rfl
  exact fun w1 => pureAt_of (ex_extract rfl rfl)
 intro w143 hC145 hF146
 obtain ⟨F147, g148, R149⟩ := hF146.get 5 rfl rfl
 have S144 := St.gives S131 g148
 have le151 : Le _ _ := g148.le S131.sat
 have R152 := R149
 generalize F147 = F150 at *
 obtain ⟨a153, c154, rfl, r155⟩ := R152
 have r155 : Bs _ (.slice a153 ((tapeB cs).take N).length c154) ((tapeB cs).take N) := r155
 clear hF146
 simp only [pS, pN, pA, pC, pZ]
 refine stLate (i := 0) (v := (.agg #[(.slice a153 ((tapeB cs).take N).length c154), (.int .i64 ((N : Nat) : Int))])) S144 rfl rfl rfl (size_67) (allc2 rfl rfl) (Nat.le_of_ble_eq_true rfl) (fun w156 S157 => ?_)
 have S157 : St W (whole W) w156 F150 [⟨n127, [(.slice a153 ((tapeB cs).take N).length c154), (.int .i64 ((N : Nat) : Int))], 67⟩, ⟨n102, [(.slice a10 p1.name.length c10), (.slice a11 p1.key.length c11), (.slice a12 p1.value.length c12), (.bool p1.gone)], 45⟩] [] := S157
 refine do_ rfl (.int .i64 0) (ex_assign _) ?_
 simp only [pS, pN, pA, pC, pZ]
 refine wl_nil (hK132 _ _ ?_)
 refine wp_seq_k (fun K158 hK158 => region_wl ?_)
 refine do_ rfl (.agg #[(.slice a153 ((tapeB cs).take N).length c154), (.int .i64 ((N : Nat) : Int))]) (ex_load rfl (loadN (cs := [(.slice a153 ((tapeB cs).take N).length c154), (.int .i64 ((N : Nat) : Int))]) Tryd.underlying67 rfl (size_67) (St.range S157 (i := 0) rfl 0 [(.slice a153 ((tapeB cs).take N).length c154), (.int .i64 ((N : Nat) : Int))] (sub_range 0 rfl)))) ?_
 simp only [pS, pN, pA, pC, pZ]
 refine stGives S157 rfl (ex_fn (vs := #[(.agg #[(.slice a153 ((tapeB cs).take N).length c154), (.int .i64 ((N : Nat) : Int))])]) (map1 rfl) rfl (ent_32 _ _)) (recIs2_spec _ _ _ (⟨(tapeB cs).take N, N⟩ : Tp) (S157).sat (hT.at S157.gr.below) ⟨_, _, rfl, r155⟩ (⟨by simp only [List.length_take]; omega, by simp only [List.length_take]; omega⟩) (rec_tape hh hN) (take_whole hh.ok hN)) ?_
 intro v164 w159 F161 S160 le162 R163
 obtain ⟨a165, c166, a167, c168, rfl, r169, r170, h171⟩ := R163
 simp only [pS, pN, pA, pC, pZ]
 refine do_ rfl (.tuple #[(.slice a165 (cs.take (wholeN cs N)).length c166), (.agg #[(.slice a167 (tapeB (cs.take (wholeN cs N))).length c168), (.int .i64 (((min N (tapeB (cs.take (wholeN cs N))).length) : Nat) : Int))]), (.int .i64 0)]) (ex_move _) ?_
 simp only [pS, pN, pA, pC, pZ]
 refine do_ rfl (.slice a165 (cs.take (wholeN cs N)).length c166) (ex_extract rfl rfl) ?_
 simp only [pS, pN, pA, pC, pZ]
 refine do_ rfl (.agg #[(.slice a167 (tapeB (cs.take (wholeN cs N))).length c168), (.int .i64 (((min N (tapeB (cs.take (wholeN cs N))).length) : Nat) : Int))]) (ex_extract rfl rfl) ?_
 simp only [pS, pN, pA, pC, pZ]
 refine do_ rfl (.int .i64 0) (ex_extract rfl rfl) ?_
 simp only [pS, pN, pA, pC, pZ]
 refine stNew S160 (v := fun n => .pointer (some ⟨n, 0, none⟩)) rfl (ex_alloc (zero_67 _)) (fun n172 w173 S174 => ?_)
 simp only [pS, pN, pA, pC, pZ]
 have S174 : St W (whole W) w173 F161 [⟨n172, [(.slice none 0 0), (.int .i64 0)], 67⟩, ⟨n127, [(.slice a153 ((tapeB cs).take N).length c154), (.int .i64 ((N : Nat) : Int))], 67⟩, ⟨n102, [(.slice a10 p1.name.length c10), (.slice a11 p1.key.length c11), (.slice a12 p1.value.length c12), (.bool p1.gone)], 45⟩] [] := S174
 refine do_ rfl (.slice a165 (cs.take (wholeN cs N)).length c166) (ex_assign _) ?_
 simp only [pS, pN, pA, pC, pZ]
 refine stStore (i := 0) (v := (.agg #[(.slice a167 (tapeB (cs.take (wholeN cs N))).length c168), (.int .i64 (((min N (tapeB (cs.take (wholeN cs N))).length) : Nat) : Int))])) S174 rfl rfl rfl rfl (size_67) (allc2 rfl rfl) (Nat.le_of_ble_eq_true rfl) (fun w175 S176 => ?_)
 simp only [pS, pN, pA, pC, pZ]
 have S176 : St W (whole W) w175 F161 [⟨n172, [(.slice a167 (tapeB (cs.take (wholeN cs N))).length c168), (.int .i64 (((min N (tapeB (cs.take (wholeN cs N))).length) : Nat) : Int))], 67⟩, ⟨n127, [(.slice a153 ((tapeB cs).take N).length c154), (.int .i64 ((N : Nat) : Int))], 67⟩, ⟨n102, [(.slice a10 p1.name.length c10), (.slice a11 p1.key.length c11), (.slice a12 p1.value.length c12), (.bool p1.gone)], 45⟩] [] := S176
 refine do_ rfl (.int .i64 0) (ex_assign _) ?_
 simp only [pS, pN, pA, pC, pZ]
 refine wl_nil (hK158 _ _ ?_)
 refine wp_seq_k (fun K177 hK177 => region_wl ?_)
 refine do_ rfl (.slice a165 (cs.take (wholeN cs N)).length c166) (ex_move _) ?_
 simp only [pS, pN, pA, pC, pZ]
 refine do_ rfl (.int .i64 (((cs.take (wholeN cs N)).length : Nat) : Int)) (ex_len Tryd.underlying60 rfl) ?_
 simp only [pS, pN, pA, pC, pZ]
 refine do_ rfl (.int .i64 ((((cs.take (wholeN cs N)).length + 1) : Nat) : Int)) (ex_add (m := (((cs.take (wholeN cs N)).length : Nat) : Int)) (n := (1 : Int)) (r := ((((cs.take (wholeN cs N)).length + 1) : Nat) : Int)) rfl rfl (by omega) (by omega) (by omega)) ?_
 simp only [pS, pN, pA, pC, pZ]
 refine do_ rfl (.agg #[(.slice a10 p1.name.length c10), (.slice a11 p1.key.length c11), (.slice a12 p1.value.length c12), (.bool p1.gone)]) (ex_load rfl (loadN (cs := [(.slice a10 p1.name.length c10), (.slice a11 p1.key.length c11), (.slice a12 p1.value.length c12), (.bool p1.gone)]) Tryd.underlying45 rfl (size_45) (St.range S176 (i := 2) rfl 0 [(.slice a10 p1.name.length c10), (.slice a11 p1.key.length c11), (.slice a12 p1.value.length c12), (.bool p1.gone)] (sub_range 0 rfl)))) ?_
 simp only [pS, pN, pA, pC, pZ]
 refine stGives S176 rfl (ex_fn (vs := #[(.agg #[(.slice a10 p1.name.length c10), (.slice a11 p1.key.length c11), (.slice a12 p1.value.length c12), (.bool p1.gone)])]) (map1 rfl) rfl (ent_20 _ _)) (keepWrite_spec _ _ _ p1 (S176).sat ⟨_, _, _, _, _, _, rfl, (z10.mono (((le109.trans le120).trans le151).trans le162)), (z11.mono (((le109.trans le120).trans le151).trans le162)), (z12.mono (((le109.trans le120).trans le151).trans le162))⟩) ?_
 intro v183 w178 F180 S179 le181 R182
 obtain ⟨xa184, xc185, xa186, xc187, xa188, xc189, rfl, r190, r191, r192⟩ := R182
 simp only [pS, pN, pA, pC, pZ]
 refine stNew S179 (v := fun n => .slice (some ⟨n, 0, none⟩) 1 1) rfl (ex_lit (ps := #[(0, (.agg #[(.slice xa184 (writeP p1).name.length xc185), (.slice xa186 (writeP p1).key.length xc187), (.bool (writeP p1).gone), (.slice xa188 (writeP p1).value.length xc189)]))]) (cells := #[(.slice xa184 (writeP p1).name.length xc185), (.slice xa186 (writeP p1).key.length xc187), (.bool (writeP p1).gone), (.slice xa188 (writeP p1).value.length xc189)]) (E := 36) (bmap1 rfl) (fun w => by kernel_rfl)) (fun n193 w194 S195 => ?_)
 simp only [pS, pN, pA, pC, pZ]
 have S195 : St W (whole W) w194 F180 [⟨n193, [(.slice xa184 (writeP p1).name.length xc185), (.slice xa186 (writeP p1).key.length xc187), (.bool (writeP p1).gone), (.slice xa188 (writeP p1).value.length xc189)], 36⟩, ⟨n172, [(.slice a167 (tapeB (cs.take (wholeN cs N))).length c168), (.int .i64 (((min N (tapeB (cs.take (wholeN cs N))).length) : Nat) : Int))], 67⟩, ⟨n127, [(.slice a153 ((tapeB cs).take N).length c154), (.int .i64 ((N : Nat) : Int))], 67⟩, ⟨n102, [(.slice a10 p1.name.length c10), (.slice a11 p1.key.length c11), (.slice a12 p1.value.length c12), (.bool p1.gone)], 45⟩] [] := S195
 refine do_ rfl (.agg #[(.int .i64 ((((cs.take (wholeN cs N)).length + 1) : Nat) : Int)), (.slice (some ⟨n193, 0, none⟩) 1 1)]) (ex_build (ps := #[(0, (.int .i64 ((((cs.take (wholeN cs N)).length + 1) : Nat) : Int))), (1, (.slice (some ⟨n193, 0, none⟩) 1 1))]) (bmap2 rfl rfl) (by kernel_rfl)) ?_
 simp only [pS, pN, pA, pC, pZ]
 refine stNew S195 (v := fun n => .pointer (some ⟨n, 0, none⟩)) rfl (ex_alloc (zero_72 _)) (fun n196 w197 S198 => ?_)
 simp only [pS, pN, pA, pC, pZ]
 have S198 : St W (whole W) w197 F180 [⟨n196, [(.int .i64 0), (.slice none 0 0)], 72⟩, ⟨n193, [(.slice xa184 (writeP p1).name.length xc185), (.slice xa186 (writeP p1).key.length xc187), (.bool (writeP p1).gone), (.slice xa188 (writeP p1).value.length xc189)], 36⟩, ⟨n172, [(.slice a167 (tapeB (cs.take (wholeN cs N))).length c168), (.int .i64 (((min N (tapeB (cs.take (wholeN cs N))).length) : Nat) : Int))], 67⟩, ⟨n127, [(.slice a153 ((tapeB cs).take N).length c154), (.int .i64 ((N : Nat) : Int))], 67⟩, ⟨n102, [(.slice a10 p1.name.length c10), (.slice a11 p1.key.length c11), (.slice a12 p1.value.length c12), (.bool p1.gone)], 45⟩] [] := S198
 refine stStore (i := 0) (v := (.agg #[(.int .i64 ((((cs.take (wholeN cs N)).length + 1) : Nat) : Int)), (.slice (some ⟨n193, 0, none⟩) 1 1)])) S198 rfl rfl rfl rfl (size_72) (allc2 rfl rfl) (Nat.le_of_ble_eq_true rfl) (fun w199 S200 => ?_)
 simp only [pS, pN, pA, pC, pZ]
 have S200 : St W (whole W) w199 F180 [⟨n196, [(.int .i64 ((((cs.take (wholeN cs N)).length + 1) : Nat) : Int)), (.slice (some ⟨n193, 0, none⟩) 1 1)], 72⟩, ⟨n193, [(.slice xa184 (writeP p1).name.length xc185), (.slice xa186 (writeP p1).key.length xc187), (.bool (writeP p1).gone), (.slice xa188 (writeP p1).value.length xc189)], 36⟩, ⟨n172, [(.slice a167 (tapeB (cs.take (wholeN cs N))).length c168), (.int .i64 (((min N (tapeB (cs.take (wholeN cs N))).length) : Nat) : Int))], 67⟩, ⟨n127, [(.slice a153 ((tapeB cs).take N).length c154), (.int .i64 ((N : Nat) : Int))], 67⟩, ⟨n102, [(.slice a10 p1.name.length c10), (.slice a11 p1.key.length c11), (.slice a12 p1.value.length c12), (.bool p1.gone)], 45⟩] [] := S200
 refine wl_nil (hK177 _ _ ?_)
 refine wp_seq_k (fun K201 hK201 => ?_)
 have hcw : CmOk (⟨((cs.take (wholeN cs N)).length + 1), [(writeP p1)]⟩ : Cm) := wr1_ok (by omega) (by omega)
 have hfl := frameB_len hcw
 have hbl := bodyB_len hcw
 refine region_wl ?_
 refine do_ rfl (.agg #[(.slice a167 (tapeB (cs.take (wholeN cs N))).length c168), (.int .i64 (((min N (tapeB (cs.take (wholeN cs N))).length) : Nat) : Int))]) (ex_load rfl (loadN (cs := [(.slice a167 (tapeB (cs.take (wholeN cs N))).length c168), (.int .i64 (((min N (tapeB (cs.take (wholeN cs N))).length) : Nat) : Int))]) Tryd.underlying67 rfl (size_67) (St.range S200 (i := 2) rfl 0 [(.slice a167 (tapeB (cs.take (wholeN cs N))).length c168), (.int .i64 (((min N (tapeB (cs.take (wholeN cs N))).length) : Nat) : Int))] (sub_range 0 rfl)))) ?_
 simp only [pS, pN, pA, pC, pZ]
 refine do_ rfl (.agg #[(.int .i64 ((((cs.take (wholeN cs N)).length + 1) : Nat) : Int)), (.slice (some ⟨n193, 0, none⟩) 1 1)]) (ex_load rfl (loadN (cs := [(.int .i64 ((((cs.take (wholeN cs N)).length + 1) : Nat) : Int)), (.slice (some ⟨n193, 0, none⟩) 1 1)]) Tryd.underlying72 rfl (size_72) (St.range S200 (i := 0) rfl 0 [(.int .i64 ((((cs.take (wholeN cs N)).length + 1) : Nat) : Int)), (.slice (some ⟨n193, 0, none⟩) 1 1)] (sub_range 0 rfl)))) ?_
 simp only [pS, pN, pA, pC, pZ]
 obtain ⟨S202, le203, hc204⟩ := St.freezeBlk S200 (i := 1) rfl
 have r206 : Wrs _ (.slice (some ⟨n193, 0, none⟩) 1 1) [(writeP p1)] := sl_of_block (R := WrC) (l := [(writeP p1)]) (el := [[(.slice xa184 (writeP p1).name.length xc185), (.slice xa186 (writeP p1).key.length xc187), (.bool (writeP p1).gone), (.slice xa188 (writeP p1).value.length xc189)]]) hc204 rfl ⟨⟨_, _, _, _, rfl, (r190.mono le203), (r191.mono le203), rfl, (r192.mono le203)⟩, trivial⟩ (by simp) (by unfold maxLen; simp)
 generalize addF F180 w199 n193 = F205 at *
 have S202 : St W (whole W) w199 F205 [⟨n196, [(.int .i64 ((((cs.take (wholeN cs N)).length + 1) : Nat) : Int)), (.slice (some ⟨n193, 0, none⟩) 1 1)], 72⟩, ⟨n172, [(.slice a167 (tapeB (cs.take (wholeN cs N))).length c168), (.int .i64 (((min N (tapeB (cs.take (wholeN cs N))).length) : Nat) : Int))], 67⟩, ⟨n127, [(.slice a153 ((tapeB cs).take N).length c154), (.int .i64 ((N : Nat) : Int))], 67⟩, ⟨n102, [(.slice a10 p1.name.length c10), (.slice a11 p1.key.length c11), (.slice a12 p1.value.length c12), (.bool p1.gone)], 45⟩] [] := S202
 refine stGives S202 rfl (ex_fn (vs := #[(.agg #[(.slice a167 (tapeB (cs.take (wholeN cs N))).length c168), (.int .i64 (((min N (tapeB (cs.take (wholeN cs N))).length) : Nat) : Int))]), (.agg #[(.int .i64 ((((cs.take (wholeN cs N)).length + 1) : Nat) : Int)), (.slice (some ⟨n193, 0, none⟩) 1 1)])]) (map2 rfl rfl) rfl (ent_34 _ _)) (append_spec _ _ _ _ (⟨(tapeB (cs.take (wholeN cs N))), (min N (tapeB (cs.take (wholeN cs N))).length)⟩ : Tp) (⟨((cs.take (wholeN cs N)).length + 1), [(writeP p1)]⟩ : Cm) (S202).sat (hT.at S202.gr.below) ⟨_, _, rfl, (r170.mono (le181.trans le203))⟩ ⟨_, _, rfl, r206⟩ (⟨by simp only; omega, by simp only; omega⟩) hcw) ?_
 intro v212 w207 F209 S208 le210 R211
 obtain ⟨_, rfl, R213⟩ := R211
 obtain ⟨a214, c215, rfl, r216⟩ := R213
 have r216 : Bs _ (.slice a214 ((tapeB (cs.take (wholeN cs N))) ++ frameB (⟨((cs.take (wholeN cs N)).length + 1), [(writeP p1)]⟩ : Cm)).length c215) ((tapeB (cs.take (wholeN cs N))) ++ frameB (⟨((cs.take (wholeN cs N)).length + 1), [(writeP p1)]⟩ : Cm)) := r216
 simp only [pS, pN, pA, pC, pZ]
 refine do_ rfl (.tuple #[(.agg #[(.slice a214 ((tapeB (cs.take (wholeN cs N))) ++ frameB (⟨((cs.take (wholeN cs N)).length + 1), [(writeP p1)]⟩ : Cm)).length c215), (.int .i64 (((min N (tapeB (cs.take (wholeN cs N))).length) : Nat) : Int))]), (.int .i64 0)]) (ex_move _) ?_
 simp only [pS, pN, pA, pC, pZ]
 refine do_ rfl (.agg #[(.slice a214 ((tapeB (cs.take (wholeN cs N))) ++ frameB (⟨((cs.take (wholeN cs N)).length + 1), [(writeP p1)]⟩ : Cm)).length c215), (.int .i64 (((min N (tapeB (cs.take (wholeN cs N))).length) : Nat) : Int))]) (ex_extract rfl rfl) ?_
 simp only [pS, pN, pA, pC, pZ]
 refine do_ rfl (.int .i64 0) (ex_extract rfl rfl) ?_
 simp only [pS, pN, pA, pC, pZ]
 refine stNew S208 (v := fun n => .pointer (some ⟨n, 0, none⟩)) rfl (ex_alloc (zero_67 _)) (fun n217 w218 S219 => ?_)
 simp only [pS, pN, pA, pC, pZ]
 have S219 : St W (whole W) w218 F209 [⟨n217, [(.slice none 0 0), (.int .i64 0)], 67⟩, ⟨n196, [(.int .i64 ((((cs.take (wholeN cs N)).length + 1) : Nat) : Int)), (.slice (some ⟨n193, 0, none⟩) 1 1)], 72⟩, ⟨n172, [(.slice a167 (tapeB (cs.take (wholeN cs N))).length c168), (.int .i64 (((min N (tapeB (cs.take (wholeN cs N))).length) : Nat) : Int))], 67⟩, ⟨n127, [(.slice a153 ((tapeB cs).take N).length c154), (.int .i64 ((N : Nat) : Int))], 67⟩, ⟨n102, [(.slice a10 p1.name.length c10), (.slice a11 p1.key.length c11), (.slice a12 p1.value.length c12), (.bool p1.gone)], 45⟩] [] := S219
 refine stStore (i := 0) (v := (.agg #[(.slice a214 ((tapeB (cs.take (wholeN cs N))) ++ frameB (⟨((cs.take (wholeN cs N)).length + 1), [(writeP p1)]⟩ : Cm)).length c215), (.int .i64 (((min N (tapeB (cs.take (wholeN cs N))).length) : Nat) : Int))])) S219 rfl rfl rfl rfl (size_67) (allc2 rfl rfl) (Nat.le_of_ble_eq_true rfl) (fun w220 S221 => ?_)
 simp only [pS, pN, pA, pC, pZ]
 have S221 : St W (whole W) w220 F209 [⟨n217, [(.slice a214 ((tapeB (cs.take (wholeN cs N))) ++ frameB (⟨((cs.take (wholeN cs N)).length + 1), [(writeP p1)]⟩ : Cm)).length c215), (.int .i64 (((min N (tapeB (cs.take (wholeN cs N))).length) : Nat) : Int))], 67⟩, ⟨n196, [(.int .i64 ((((cs.take (wholeN cs N)).length + 1) : Nat) : Int)), (.slice (some ⟨n193, 0, none⟩) 1 1)], 72⟩, ⟨n172, [(.slice a167 (tapeB (cs.take (wholeN cs N))).length c168), (.int .i64 (((min N (tapeB (cs.take (wholeN cs N))).length) : Nat) : Int))], 67⟩, ⟨n127, [(.slice a153 ((tapeB cs).take N).length c154), (.int .i64 ((N : Nat) : Int))], 67⟩, ⟨n102, [(.slice a10 p1.name.length c10), (.slice a11 p1.key.length c11), (.slice a12 p1.value.length c12), (.bool p1.gone)], 45⟩] [] := S221
 refine do_ rfl (.int .i64 0) (ex_assign _) ?_
 simp only [pS, pN, pA, pC, pZ]
 refine wl_nil (hK201 _ _ ?_)
 refine wp_seq_k (fun K222 hK222 => region_wl ?_)
 refine do_ rfl (.agg #[(.slice a214 ((tapeB (cs.take (wholeN cs N))) ++ frameB (⟨((cs.take (wholeN cs N)).length + 1), [(writeP p1)]⟩ : Cm)).length c215), (.int .i64 (((min N (tapeB (cs.take (wholeN cs N))).length) : Nat) : Int))]) (ex_load rfl (loadN (cs := [(.slice a214 ((tapeB (cs.take (wholeN cs N))) ++ frameB (⟨((cs.take (wholeN cs N)).length + 1), [(writeP p1)]⟩ : Cm)).length c215), (.int .i64 (((min N (tapeB (cs.take (wholeN cs N))).length) : Nat) : Int))]) Tryd.underlying67 rfl (size_67) (St.range S221 (i := 0) rfl 0 [(.slice a214 ((tapeB (cs.take (wholeN cs N))) ++ frameB (⟨((cs.take (wholeN cs N)).length + 1), [(writeP p1)]⟩ : Cm)).length c215), (.int .i64 (((min N (tapeB (cs.take (wholeN cs N))).length) : Nat) : Int))] (sub_range 0 rfl)))) ?_
 simp only [pS, pN, pA, pC, pZ]
 refine stGives S221 rfl (ex_fn (vs := #[(.agg #[(.slice a214 ((tapeB (cs.take (wholeN cs N))) ++ frameB (⟨((cs.take (wholeN cs N)).length + 1), [(writeP p1)]⟩ : Cm)).length c215), (.int .i64 (((min N (tapeB (cs.take (wholeN cs N))).length) : Nat) : Int))])]) (map1 rfl) rfl (ent_32 _ _)) (recIs2_spec _ _ _ (⟨(tapeB (cs.take (wholeN cs N))) ++ frameB (⟨((cs.take (wholeN cs N)).length + 1), [(writeP p1)]⟩ : Cm), (min N (tapeB (cs.take (wholeN cs N))).length)⟩ : Tp) (S221).sat (hT.at S221.gr.below) ⟨_, _, rfl, r216⟩ (⟨by simp only [List.length_append]; omega, by simp only [List.length_append]; omega⟩) (rec_more (hh.take _) hcw rfl) (List.take_length)) ?_
 intro v228 w223 F225 S224 le226 R227
 obtain ⟨a229, c230, a231, c232, rfl, r233, r234, h235⟩ := R227
 simp only [pS, pN, pA, pC, pZ]
 refine do_ rfl (.tuple #[(.slice a229 ((cs.take (wholeN cs N)) ++ [(⟨((cs.take (wholeN cs N)).length + 1), [(writeP p1)]⟩ : Cm)]).length c230), (.agg #[(.slice a231 (tapeB (cs.take (wholeN cs N)) ++ frameB (⟨((cs.take (wholeN cs N)).length + 1), [(writeP p1)]⟩ : Cm)).length c232), (.int .i64 (((min (min N (tapeB (cs.take (wholeN cs N))).length) (tapeB (cs.take (wholeN cs N)) ++ frameB (⟨((cs.take (wholeN cs N)).length + 1), [(writeP p1)]⟩ : Cm)).length) : Nat) : Int))]), (.int .i64 0)]) (ex_move _) ?_
 simp only [pS, pN, pA, pC, pZ]
 refine do_ rfl (.slice a229 ((cs.take (wholeN cs N)) ++ [(⟨((cs.take (wholeN cs N)).length + 1), [(writeP p1)]⟩ : Cm)]).length c230) (ex_extract rfl rfl) ?_
 simp only [pS, pN, pA, pC, pZ]
 refine do_ rfl (.agg #[(.slice a231 (tapeB (cs.take (wholeN cs N)) ++ frameB (⟨((cs.take (wholeN cs N)).length + 1), [(writeP p1)]⟩ : Cm)).length c232), (.int .i64 (((min (min N (tapeB (cs.take (wholeN cs N))).length) (tapeB (cs.take (wholeN cs N)) ++ frameB (⟨((cs.take (wholeN cs N)).length + 1), [(writeP p1)]⟩ : Cm)).length) : Nat) : Int))]) (ex_extract rfl rfl) ?_
 simp only [pS, pN, pA, pC, pZ]
 refine do_ rfl (.int .i64 0) (ex_extract rfl rfl) ?_
 simp only [pS, pN, pA, pC, pZ]
 refine stNew S224 (v := fun n => .pointer (some ⟨n, 0, none⟩)) rfl (ex_alloc (zero_67 _)) (fun n236 w237 S238 => ?_)
 simp only [pS, pN, pA, pC, pZ]
 have S238 : St W (whole W) w237 F225 [⟨n236, [(.slice none 0 0), (.int .i64 0)], 67⟩, ⟨n217, [(.slice a214 ((tapeB (cs.take (wholeN cs N))) ++ frameB (⟨((cs.take (wholeN cs N)).length + 1), [(writeP p1)]⟩ : Cm)).length c215), (.int .i64 (((min N (tapeB (cs.take (wholeN cs N))).length) : Nat) : Int))], 67⟩, ⟨n196, [(.int .i64 ((((cs.take (wholeN cs N)).length + 1) : Nat) : Int)), (.slice (some ⟨n193, 0, none⟩) 1 1)], 72⟩, ⟨n172, [(.slice a167 (tapeB (cs.take (wholeN cs N))).length c168), (.int .i64 (((min N (tapeB (cs.take (wholeN cs N))).length) : Nat) : Int))], 67⟩, ⟨n127, [(.slice a153 ((tapeB cs).take N).length c154), (.int .i64 ((N : Nat) : Int))], 67⟩, ⟨n102, [(.slice a10 p1.name.length c10), (.slice a11 p1.key.length c11), (.slice a12 p1.value.length c12), (.bool p1.gone)], 45⟩] [] := S238
 refine do_ rfl (.slice a229 ((cs.take (wholeN cs N)) ++ [(⟨((cs.take (wholeN cs N)).length + 1), [(writeP p1)]⟩ : Cm)]).length c230) (ex_assign _) ?_
 simp only [pS, pN, pA, pC, pZ]
 refine stStore (i := 0) (v := (.agg #[(.slice a231 (tapeB (cs.take (wholeN cs N)) ++ frameB (⟨((cs.take (wholeN cs N)).length + 1), [(writeP p1)]⟩ : Cm)).length c232), (.int .i64 (((min (min N (tapeB (cs.take (wholeN cs N))).length) (tapeB (cs.take (wholeN cs N)) ++ frameB (⟨((cs.take (wholeN cs N)).length + 1), [(writeP p1)]⟩ : Cm)).length) : Nat) : Int))])) S238 rfl rfl rfl rfl (size_67) (allc2 rfl rfl) (Nat.le_of_ble_eq_true rfl) (fun w239 S240 => ?_)
 simp only [pS, pN, pA, pC, pZ]
 have S240 : St W (whole W) w239 F225 [⟨n236, [(.slice a231 (tapeB (cs.take (wholeN cs N)) ++ frameB (⟨((cs.take (wholeN cs N)).length + 1), [(writeP p1)]⟩ : Cm)).length c232), (.int .i64 (((min (min N (tapeB (cs.take (wholeN cs N))).length) (tapeB (cs.take (wholeN cs N)) ++ frameB (⟨((cs.take (wholeN cs N)).length + 1), [(writeP p1)]⟩ : Cm)).length) : Nat) : Int))], 67⟩, ⟨n217, [(.slice a214 ((tapeB (cs.take (wholeN cs N))) ++ frameB (⟨((cs.take (wholeN cs N)).length + 1), [(writeP p1)]⟩ : Cm)).length c215), (.int .i64 (((min N (tapeB (cs.take (wholeN cs N))).length) : Nat) : Int))], 67⟩, ⟨n196, [(.int .i64 ((((cs.take (wholeN cs N)).length + 1) : Nat) : Int)), (.slice (some ⟨n193, 0, none⟩) 1 1)], 72⟩, ⟨n172, [(.slice a167 (tapeB (cs.take (wholeN cs N))).length c168), (.int .i64 (((min N (tapeB (cs.take (wholeN cs N))).length) : Nat) : Int))], 67⟩, ⟨n127, [(.slice a153 ((tapeB cs).take N).length c154), (.int .i64 ((N : Nat) : Int))], 67⟩, ⟨n102, [(.slice a10 p1.name.length c10), (.slice a11 p1.key.length c11), (.slice a12 p1.value.length c12), (.bool p1.gone)], 45⟩] [] := S240
 refine do_ rfl (.int .i64 0) (ex_assign _) ?_
 simp only [pS, pN, pA, pC, pZ]
 refine wl_nil (hK222 _ _ ?_)
 refine wp_seq_k (fun K241 hK241 => ?_)
 have hla : ((cs.take (wholeN cs N)) ++ [(⟨((cs.take (wholeN cs N)).length + 1), [(writeP p1)]⟩ : Cm)]).length = (cs.take (wholeN cs N)).length + 1 := by simp
 obtain ⟨mm, hmm, hpl⟩ : ∃ m, m = (⟨((cs.take (wholeN cs N)).length + 1), [(writeP p1)]⟩ : Cm) ∧ ((cs.take (wholeN cs N)) ++ [(⟨((cs.take (wholeN cs N)).length + 1), [(writeP p1)]⟩ : Cm)])[(cs.take (wholeN cs N)).length]? = some m := ⟨_, rfl, by simp⟩
 obtain ⟨b242, o243, ha244, xa247, xc248, c245, c246, r249⟩ := Cms.get r233 hpl
 refine region_gw F225 37 [(28, .is (.bool true))] (by kernel_rfl) (by kernel_rfl) ?_
 simp only [List.take_succ_cons, List.take_zero]
 refine gw_pure rfl rfl (.bool true) (fun w250 hCw250 => pureAt_of (ex_move _)) ?_
 simp only [pS, pN, pA, pC, pZ]
 refine gw_pure rfl rfl (.bool true) (fun w250 hCw250 => pureAt_of (ex_move _)) ?_
 simp only [pS, pN, pA, pC, pZ]
 refine gw_pure rfl rfl (.int .i64 0) (fun w250 hCw250 => pureAt_of (ex_move _)) ?_
 simp only [pS, pN, pA, pC, pZ]
 refine gw_pure rfl rfl (.bool true) (fun w250 hCw250 => pureAt_of (ex_eql (b := true) rfl rfl (by decide))) ?_
 simp only [pS, pN, pA, pC, pZ]
 refine gw_pure rfl rfl (.bool true) (fun w250 hCw250 => pureAt_of (ex_pick (b := true) rfl)) ?_
 simp only [pS, pN, pA, pC, pZ]
 refine gw_pure rfl rfl (.bool true) (fun w250 hCw250 => pureAt_of (ex_move _)) ?_
 simp only [pS, pN, pA, pC, pZ]
 refine gw_pure rfl rfl (.int .i64 0) (fun w250 hCw250 => pureAt_of (ex_move _)) ?_
 simp only [pS, pN, pA, pC, pZ]
 refine gw_pure rfl rfl (.bool true) (fun w250 hCw250 => pureAt_of (ex_eql (b := true) rfl rfl (by decide))) ?_
 simp only [pS, pN, pA, pC, pZ]
 refine gw_pure rfl rfl (.bool true) (fun w250 hCw250 => pureAt_of (ex_pick (b := true) rfl)) ?_
 simp only [pS, pN, pA, pC, pZ]
 refine gw_pure rfl rfl (.bool true) (fun w250 hCw250 => pureAt_of (ex_move _)) ?_
 simp only [pS, pN, pA, pC, pZ]
 refine gw_pure rfl rfl (.int .i64 0) (fun w250 hCw250 => pureAt_of (ex_move _)) ?_
 simp only [pS, pN, pA, pC, pZ]
 refine gw_pure rfl rfl (.bool true) (fun w250 hCw250 => pureAt_of (ex_eql (b := true) rfl rfl (by decide))) ?_
 simp only [pS, pN, pA, pC, pZ]
 refine gw_pure rfl rfl (.bool true) (fun w250 hCw250 => pureAt_of (ex_pick (b := true) rfl)) ?_
 simp only [pS, pN, pA, pC, pZ]
 refine gw_pure rfl rfl (.bool true) (fun w250 hCw250 => pureAt_of (ex_move _)) ?_
 simp only [pS, pN, pA, pC, pZ]
 refine gw_pure rfl rfl (.int .i64 0) (fun w250 hCw250 => pureAt_of (ex_move _)) ?_
 simp only [pS, pN, pA, pC, pZ]
 refine gw_pure rfl rfl (.bool true) (fun w250 hCw250 => pureAt_of (ex_eql (b := true) rfl rfl (by decide))) ?_
 simp only [pS, pN, pA, pC, pZ]
 refine gw_pure rfl rfl (.bool true) (fun w250 hCw250 => pureAt_of (ex_pick (b := true) rfl)) ?_
 simp only [pS, pN, pA, pC, pZ]
 refine gw_pure rfl rfl (.bool true) (fun w250 hCw250 => pureAt_of (ex_move _)) ?_
 simp only [pS, pN, pA, pC, pZ]
 refine gw_pure rfl rfl (.slice a229 ((cs.take (wholeN cs N)) ++ [(⟨((cs.take (wholeN cs N)).length + 1), [(writeP p1)]⟩ : Cm)]).length c230) (fun w250 hCw250 => pureAt_of (ex_move _)) ?_
 simp only [pS, pN, pA, pC, pZ]
 refine gw_pure rfl rfl (.int .i64 ((((cs.take (wholeN cs N)) ++ [(⟨((cs.take (wholeN cs N)).length + 1), [(writeP p1)]⟩ : Cm)]).length : Nat) : Int)) (fun w250 hCw250 => pureAt_of (ex_len Tryd.underlying60 rfl)) ?_
 simp only [pS, pN, pA, pC, pZ]
 refine gw_pure rfl rfl (.slice a165 (cs.take (wholeN cs N)).length c166) (fun w250 hCw250 => pureAt_of (ex_move _)) ?_
 simp only [pS, pN, pA, pC, pZ]
 refine gw_pure rfl rfl (.int .i64 (((cs.take (wholeN cs N)).length : Nat) : Int)) (fun w250 hCw250 => pureAt_of (ex_len Tryd.underlying60 rfl)) ?_
 simp only [pS, pN, pA, pC, pZ]
 refine gw_pure rfl rfl (.int .i64 ((((cs.take (wholeN cs N)).length + 1) : Nat) : Int)) (fun w250 hCw250 => pureAt_of (ex_add (m := (((cs.take (wholeN cs N)).length : Nat) : Int)) (n := (1 : Int)) (r := ((((cs.take (wholeN cs N)).length + 1) : Nat) : Int)) rfl rfl (by omega) (by omega) (by omega))) ?_
 simp only [pS, pN, pA, pC, pZ]
 refine gw_pure rfl rfl (.bool true) (fun w250 hCw250 => pureAt_of (ex_eql (m := ((((cs.take (wholeN cs N)) ++ [(⟨((cs.take (wholeN cs N)).length + 1), [(writeP p1)]⟩ : Cm)]).length : Nat) : Int)) (n := ((((cs.take (wholeN cs N)).length + 1) : Nat) : Int)) (b := true) rfl rfl (beq_iff_eq.2 (by omega)))) ?_
 simp only [pS, pN, pA, pC, pZ]
 refine gw_pure rfl rfl (.bool true) (fun w250 hCw250 => pureAt_of (ex_pick (b := true) rfl)) ?_
 simp only [pS, pN, pA, pC, pZ]
 refine gw_pure rfl rfl (.bool true) (fun w250 hCw250 => pureAt_of (ex_move _)) ?_
 simp only [pS, pN, pA, pC, pZ]
 refine gw_pure rfl rfl (.slice a165 (cs.take (wholeN cs N)).length c166) (fun w250 hCw250 => pureAt_of (ex_move _)) ?_
 simp only [pS, pN, pA, pC, pZ]
 refine gw_pure rfl rfl (.slice a229 ((cs.take (wholeN cs N)) ++ [(⟨((cs.take (wholeN cs N)).length + 1), [(writeP p1)]⟩ : Cm)]).length c230) (fun w250 hCw250 => pureAt_of (ex_move _)) ?_
 simp only [pS, pN, pA, pC, pZ]
 refine gw_const rfl rfl (v := (.bool true)) (fun w250 hCw250 _ => does_call (ex_fn (vs := #[(.slice a165 (cs.take (wholeN cs N)).length c166), (.slice a229 ((cs.take (wholeN cs N)) ++ [(⟨((cs.take (wholeN cs N)).length + 1), [(writeP p1)]⟩ : Cm)]).length c230)]) (map2 rfl rfl) rfl (ent_33 _ _)) (call_tells (begins_is _ _ _ _ (cs.take (wholeN cs N)) ((cs.take (wholeN cs N)) ++ [(⟨((cs.take (wholeN cs N)).length + 1), [(writeP p1)]⟩ : Cm)]) ((St.tells S240 hCw250)).sat (r169.mono (((le181.trans le203).trans le210).trans le226)) r233 (pre_app _ _)))) ?_
 simp only [pS, pN, pA, pC, pZ]
 refine gw_pure rfl rfl (.bool true) (fun w250 hCw250 => pureAt_of (ex_pick (b := true) rfl)) ?_
 simp only [pS, pN, pA, pC, pZ]
 refine gw_pure rfl rfl (.bool true) (fun w250 hCw250 => pureAt_of (ex_move _)) ?_
 simp only [pS, pN, pA, pC, pZ]
 refine gw_pure rfl rfl (.slice a229 ((cs.take (wholeN cs N)) ++ [(⟨((cs.take (wholeN cs N)).length + 1), [(writeP p1)]⟩ : Cm)]).length c230) (fun w250 hCw250 => pureAt_of (ex_move _)) ?_
 simp only [pS, pN, pA, pC, pZ]
 refine gw_pure rfl rfl (.slice a165 (cs.take (wholeN cs N)).length c166) (fun w250 hCw250 => pureAt_of (ex_move _)) ?_
 simp only [pS, pN, pA, pC, pZ]
 refine gw_pure rfl rfl (.int .i64 (((cs.take (wholeN cs N)).length : Nat) : Int)) (fun w250 hCw250 => pureAt_of (ex_len Tryd.underlying60 rfl)) ?_
 simp only [pS, pN, pA, pC, pZ]
 refine gw_pure rfl rfl (.pointer (some ⟨b242, o243 + ((cs.take (wholeN cs N)).length) * 2, none⟩)) (fun w250 hCw250 => pureAt_of (ex_at (i := (cs.take (wholeN cs N)).length) (sz := 2) Tryd.underlying60 (sizeof_72 _) rfl ha244 rfl (by omega) rfl)) ?_
 simp only [pS, pN, pA, pC, pZ]
 refine gw_pure rfl rfl (.agg #[(.int .i64 ((mm.turn : Nat) : Int)), (.slice xa247 mm.writes.length xc248)]) (fun w250 hCw250 => pureAt_of (ex_load rfl (loadN (cs := [(.int .i64 ((mm.turn : Nat) : Int)), (.slice xa247 mm.writes.length xc248)]) Tryd.underlying72 rfl (size_72) (range2 (St.fz (St.tells S240 hCw250) c245) (St.fz (St.tells S240 hCw250) c246))))) ?_
 simp only [pS, pN, pA, pC, pZ]
 refine gw_pure rfl rfl (.agg #[(.int .i64 ((((cs.take (wholeN cs N)).length + 1) : Nat) : Int)), (.slice (some ⟨n193, 0, none⟩) 1 1)]) (fun w250 hCw250 => pureAt_of (ex_load rfl (loadN (cs := [(.int .i64 ((((cs.take (wholeN cs N)).length + 1) : Nat) : Int)), (.slice (some ⟨n193, 0, none⟩) 1 1)]) Tryd.underlying72 rfl (size_72) (St.range (St.tells S240 hCw250) (i := 2) rfl 0 [(.int .i64 ((((cs.take (wholeN cs N)).length + 1) : Nat) : Int)), (.slice (some ⟨n193, 0, none⟩) 1 1)] (sub_range 0 rfl))))) ?_
 simp only [pS, pN, pA, pC, pZ]
 refine gw_nil ?_
 intro w251 hC253 hF254
 clear hF254
 have S252 := St.tells S240 hC253
 simp only [List.drop_succ_cons, List.drop_zero]
 refine stTells (v := (.bool true)) S252 rfl (ex_fn (vs := #[(.agg #[(.int .i64 ((mm.turn : Nat) : Int)), (.slice xa247 mm.writes.length xc248)]), (.agg #[(.int .i64 ((((cs.take (wholeN cs N)).length + 1) : Nat) : Int)), (.slice (some ⟨n193, 0, none⟩) 1 1)])]) (map2 rfl rfl) rfl (ent_36 _ _)) (sameCommit_is _ _ _ _ mm (S252).sat ⟨_, _, rfl, r249⟩ (by rw [hmm]; exact ⟨_, _, rfl, (r206.mono (le210.trans le226))⟩)) (fun w255 S256 => ?_)
 simp only [pS, pN, pA, pC, pZ]
 refine do_ rfl (.bool true) (ex_pick (b := true) rfl) ?_
 simp only [pS, pN, pA, pC, pZ]
 refine do_ rfl (.bool true) (ex_assign _) ?_
 simp only [pS, pN, pA, pC, pZ]
 refine wl_nil (hK241 _ _ ?_)
 refine wp_ret ?_
 (try simp only [Exit.then, Exit.inBlock, ↓reduceIte, Nat.reduceEqDiff])
 refine bodyPost_ret (v := (.bool true)) ?_ rfl ?_
 ·exact res_t rfl rfl
 ·exact ⟨rfl, S256.gr.below⟩
end Go.Proofs.YtikklmjengkliaaDoor
