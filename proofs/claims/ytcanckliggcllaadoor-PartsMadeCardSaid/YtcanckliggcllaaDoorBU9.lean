/- Rules, plain laws and walks: WDA -/
import Derived.Test.YtcanckliggcllaaDoorBU8
import Derived.Test.YtcanckliggcllaaDoorBU6
namespace Go.Proofs.YtcanckliggcllaaDoor
open Go.RowKit
set_option maxRecDepth 100000
set_option linter.unusedVariables false
set_option linter.unusedSimpArgs false
set_option maxHeartbeats 8000000 in
theorem sumLong_walk (W : World) (hT : Tabs W) (v0 : Value) (l0 : By) (z0 : Bs (whole W) v0 l0) (x1 : Int) (b1 : -9223372036854775808 ≤ x1) (b1' : x1 ≤ 9223372036854775807) :
    Calls Tryd.prog 4 #[v0, .int .i64 x1] W (Tells W (.bool true)) := by
 obtain ⟨hp0, hp1⟩ := pick_bd x1 400 (by omega)
 obtain ⟨kn, hkn⟩ : ∃ kn : Nat, pick x1 400 = (kn : Int) := ⟨(pick x1 400).toNat, (Int.toNat_of_nonneg hp0).symm⟩
 have hkb : kn < 400 := by omega
 obtain ⟨i5, hi5, hz5, hs5, hb5⟩ := info_parts infoU8
 obtain ⟨a0, c0, rfl, _⟩ := z0.shape
 have S := St.start (Sat.whole W)
 go_enter Tryd.func4, Tryd.ntmps4
 refine wp_seq_k (fun K101 hK101 => region_wl ?_)
 refine do_ rfl (.bool false) (ex_assign _) ?_
 simp only [pS, pN, pA, pC, pZ]
 refine wl_nil (hK101 _ _ ?_)
 refine wp_seq_k (fun K102 hK102 => region_wl ?_)
 refine do_ rfl (.slice a0 l0.length c0) (ex_move _) ?_
 simp only [pS, pN, pA, pC, pZ]
 refine stGives S rfl (ex_fn (vs := #[(.slice a0 l0.length c0), (.int .i64 600)]) (map2 rfl rfl) rfl (ent_18 _ _)) (some_spec _ _ _ l0 600 (S).sat z0 (by omega) (by omega)) ?_
 intro v108 w103 F105 S104 le106 R107
 obtain ⟨xa109, xc110, rfl, _⟩ := R107.shape
 simp only [pS, pN, pA, pC, pZ]
 refine stGives S104 rfl (ex_fn (vs := #[(.slice xa109 (l0.take 600).length xc110)]) (map1 rfl) rfl (ent_15 _ _)) (Sum_spec _ _ _ (l0.take 600) (S104).sat (hT.at S104.gr.below) R107 (by first | (rw [List.length_replicate]; omega) | (rw [List.length_take]; omega))) ?_
 intro v116 w111 F113 S112 le114 R115
 obtain ⟨x117, rfl, r118⟩ := R115
 obtain ⟨xa119, xc120, rfl, _⟩ := r118.shape
 have r118 : Bs _ (.slice xa119 (sumL (l0.take 600)).length xc120) (sumL (l0.take 600)) := r118
 simp only [pS, pN, pA, pC, pZ]
 refine do_ rfl (.tuple #[(.slice xa119 (sumL (l0.take 600)).length xc120), (.int .i64 0)]) (ex_move _) ?_
 simp only [pS, pN, pA, pC, pZ]
 refine do_ rfl (.slice xa119 (sumL (l0.take 600)).length xc120) (ex_extract rfl rfl) ?_
 simp only [pS, pN, pA, pC, pZ]
 refine do_ rfl (.int .i64 0) (ex_extract rfl rfl) ?_
 simp only [pS, pN, pA, pC, pZ]
 refine do_ rfl (.slice xa119 (sumL (l0.take 600)).length xc120) (ex_assign _) ?_
 simp only [pS, pN, pA, pC, pZ]
 refine do_ rfl (.int .i64 0) (ex_assign _) ?_
 simp only [pS, pN, pA, pC, pZ]
 refine wl_nil (hK102 _ _ ?_)
 refine wp_seq_k (fun K121 hK121 => region_wl ?_)
 refine do_ rfl (.int .i64 x1) (ex_move _) ?_
 simp only [pS, pN, pA, pC, pZ]
 refine stTells (v := (.int .i64 ((kn : Nat) : Int))) S112 rfl (ex_fn (vs := #[(.int .i64 x1), (.int .i64 400)]) (map2 rfl rfl) rfl (ent_19 _ _)) (hkn ▸ tells_same (picked_spec x1 (400 : Int) _ b1 b1' (by omega) (by omega))) (fun w122 S123 => ?_)
 simp only [pS, pN, pA, pC, pZ]
 refine stMake (k := 1) (n := kn) (m := kn) S123 rfl i5 (.int .u8 0) 1 Tryd.underlying22 hi5 hz5 hs5 hb5 rfl rfl (by omega) (by omega) (by omega) ?_
 intro g124 w125 S126
 rw [made_bytes] at S126
 simp only [pS, pN, pA, pC, pZ]
 have S126 : St W (whole W) w125 F113 [⟨g124, ((List.replicate kn (0 : UInt8)).map bv), 5⟩] [] := S126
 obtain ⟨S127, le128, hc129⟩ := St.freezeBlk S126 (i := 0) rfl
 have r131 := bs_of_block (l := (List.replicate kn (0 : UInt8))) hc129 rfl (by rw [List.length_replicate]; unfold maxLen; omega)
 rw [List.length_replicate] at r131
 generalize addF F113 w125 g124 = F130 at *
 have S127 : St W (whole W) w125 F130 [] [] := S127
 refine stGives S127 rfl (ex_fn (vs := #[(.slice (some ⟨g124, 0, none⟩) kn kn)]) (map1 rfl) rfl (ent_15 _ _)) (Sum_spec _ _ _ (List.replicate kn (0 : UInt8)) (S127).sat (hT.at S127.gr.below) r131 (by first | (rw [List.length_replicate]; omega) | (rw [List.length_take]; omega))) ?_
 intro v137 w132 F134 S133 le135 R136
 obtain ⟨x138, rfl, r139⟩ := R136
 obtain ⟨xa140, xc141, rfl, _⟩ := r139.shape
 have r139 : Bs _ (.slice xa140 (sumL (List.replicate kn (0 : UInt8))).length xc141) (sumL (List.replicate kn (0 : UInt8))) := r139
 simp only [pS, pN, pA, pC, pZ]
 refine do_ rfl (.tuple #[(.slice xa140 (sumL (List.replicate kn (0 : UInt8))).length xc141), (.int .i64 0)]) (ex_move _) ?_
 simp only [pS, pN, pA, pC, pZ]
 refine do_ rfl (.slice xa140 (sumL (List.replicate kn (0 : UInt8))).length xc141) (ex_extract rfl rfl) ?_
 simp only [pS, pN, pA, pC, pZ]
 refine do_ rfl (.int .i64 0) (ex_extract rfl rfl) ?_
 simp only [pS, pN, pA, pC, pZ]
 refine do_ rfl (.slice xa140 (sumL (List.replicate kn (0 : UInt8))).length xc141) (ex_assign _) ?_
 simp only [pS, pN, pA, pC, pZ]
 refine do_ rfl (.int .i64 0) (ex_assign _) ?_
 simp only [pS, pN, pA, pC, pZ]
 refine wl_nil (hK121 _ _ ?_)
 refine wp_seq_k (fun K142 hK142 => region_wl ?_)
 refine stMake (k := 1) (n := 4001) (m := 4001) S133 rfl i5 (.int .u8 0) 1 Tryd.underlying22 hi5 hz5 hs5 hb5 rfl rfl (by omega) (by omega) (by omega) ?_
 intro g143 w144 S145
 rw [made_bytes] at S145
 simp only [pS, pN, pA, pC, pZ]
 have S145 : St W (whole W) w144 F134 [⟨g143, ((List.replicate 4001 (0 : UInt8)).map bv), 5⟩] [] := S145
 obtain ⟨S146, le147, hc148⟩ := St.freezeBlk S145 (i := 0) rfl
 have r150 := bs_of_block (l := (List.replicate 4001 (0 : UInt8))) hc148 rfl (by rw [List.length_replicate]; unfold maxLen; omega)
 rw [List.length_replicate] at r150
 generalize addF F134 w144 g143 = F149 at *
 have S146 : St W (whole W) w144 F149 [] [] := S146
 refine stTells (v := (.tuple #[(.slice none 0 0), (.int .i64 1)])) S146 rfl (ex_fn (vs := #[(.slice (some ⟨g143, 0, none⟩) 4001 4001)]) (map1 rfl) rfl (ent_15 _ _)) (SumBig_spec _ _ _ (List.replicate 4001 (0 : UInt8)) (S146).sat r150 (by rw [List.length_replicate]; omega)) (fun w151 S152 => ?_)
 simp only [pS, pN, pA, pC, pZ]
 refine do_ rfl (.tuple #[(.slice none 0 0), (.int .i64 1)]) (ex_move _) ?_
 simp only [pS, pN, pA, pC, pZ]
 refine do_ rfl (.slice none 0 0) (ex_extract rfl rfl) ?_
 simp only [pS, pN, pA, pC, pZ]
 refine do_ rfl (.int .i64 1) (ex_extract rfl rfl) ?_
 simp only [pS, pN, pA, pC, pZ]
 refine do_ rfl (.slice none 0 0) (ex_assign _) ?_
 simp only [pS, pN, pA, pC, pZ]
 refine do_ rfl (.int .i64 1) (ex_assign _) ?_
 simp only [pS, pN, pA, pC, pZ]
 refine wl_nil (hK142 _ _ ?_)
 refine wp_seq_k (fun K153 hK153 => region_wl ?_)
 refine do_ rfl (.int .i64 0) (ex_move _) ?_
 simp only [pS, pN, pA, pC, pZ]
 refine do_ rfl (.bool true) (ex_eql (b := true) rfl rfl (by decide)) ?_
 simp only [pS, pN, pA, pC, pZ]
 refine do_ rfl (.bool true) (ex_move _) ?_
 simp only [pS, pN, pA, pC, pZ]
 refine do_ rfl (.int .i64 0) (ex_move _) ?_
 simp only [pS, pN, pA, pC, pZ]
 refine do_ rfl (.bool true) (ex_eql (b := true) rfl rfl (by decide)) ?_
 simp only [pS, pN, pA, pC, pZ]
 refine do_ rfl (.bool true) (ex_pick (b := true) rfl) ?_
 simp only [pS, pN, pA, pC, pZ]
 refine do_ rfl (.bool true) (ex_move _) ?_
 simp only [pS, pN, pA, pC, pZ]
 refine do_ rfl (.int .i64 1) (ex_move _) ?_
 simp only [pS, pN, pA, pC, pZ]
 refine do_ rfl (.bool true) (ex_eql (b := true) rfl rfl (by decide)) ?_
 simp only [pS, pN, pA, pC, pZ]
 refine do_ rfl (.bool true) (ex_pick (b := true) rfl) ?_
 simp only [pS, pN, pA, pC, pZ]
 refine do_ rfl (.bool true) (ex_move _) ?_
 simp only [pS, pN, pA, pC, pZ]
 refine do_ rfl (.slice xa119 (sumL (l0.take 600)).length xc120) (ex_move _) ?_
 simp only [pS, pN, pA, pC, pZ]
 refine do_ rfl (.int .i64 (((sumL (l0.take 600)).length : Nat) : Int)) (ex_len Tryd.underlying22 rfl) ?_
 simp only [pS, pN, pA, pC, pZ]
 refine do_ rfl (.bool true) (ex_eql (m := (((sumL (l0.take 600)).length : Nat) : Int)) (n := (32 : Int)) (b := true) rfl rfl (beq_iff_eq.2 (by rw [sumL_len]; rfl))) ?_
 simp only [pS, pN, pA, pC, pZ]
 refine do_ rfl (.bool true) (ex_pick (b := true) rfl) ?_
 simp only [pS, pN, pA, pC, pZ]
 refine do_ rfl (.bool true) (ex_move _) ?_
 simp only [pS, pN, pA, pC, pZ]
 refine do_ rfl (.slice xa140 (sumL (List.replicate kn (0 : UInt8))).length xc141) (ex_move _) ?_
 simp only [pS, pN, pA, pC, pZ]
 refine do_ rfl (.int .i64 (((sumL (List.replicate kn (0 : UInt8))).length : Nat) : Int)) (ex_len Tryd.underlying22 rfl) ?_
 simp only [pS, pN, pA, pC, pZ]
 refine do_ rfl (.bool true) (ex_eql (m := (((sumL (List.replicate kn (0 : UInt8))).length : Nat) : Int)) (n := (32 : Int)) (b := true) rfl rfl (beq_iff_eq.2 (by rw [sumL_len]; rfl))) ?_
 simp only [pS, pN, pA, pC, pZ]
 refine do_ rfl (.bool true) (ex_pick (b := true) rfl) ?_
 simp only [pS, pN, pA, pC, pZ]
 refine do_ rfl (.bool true) (ex_assign _) ?_
 simp only [pS, pN, pA, pC, pZ]
 refine wl_nil (hK153 _ _ ?_)
 refine wp_ret ?_
 (try simp only [Exit.then, Exit.inBlock, ↓reduceIte, Nat.reduceEqDiff])
 refine bodyPost_ret (v := (.bool true)) ?_ rfl ?_
 ·exact res_t rfl rfl
 ·exact ⟨rfl, S152.gr.below⟩
theorem parts_two (kd : UInt8) (x y : By) (hx : x.length < 65536) (hy : y.length < 65536) : partsL kd [x, y] = sumL ((([kd, b8 (x.length / 256), b8 x.length] ++ x) ++ [b8 (y.length / 256), b8 y.length]) ++ y) := by
  unfold partsL partsB
  simp [partB_eq x hx, partB_eq y hy]
theorem parts_none (kd : UInt8) : partsL kd [] = sumL [kd] := rfl
set_option maxHeartbeats 8000000 in
theorem partsMade_walk (W : World) (hT : Tabs W) (kd : UInt8) (v1 : Value) (l1 : By) (z1 : Bs (whole W) v1 l1) (v2 : Value) (l2 : By) (z2 : Bs (whole W) v2 l2) :
    Calls Tryd.prog 5 #[bv kd, v1, v2] W (Tells W (.bool true)) := by
 obtain ⟨i5, hi5, hz5, hs5, hb5⟩ := info_parts infoU8
 obtain ⟨a1, c1, rfl, _⟩ := z1.shape
 obtain ⟨a2, c2, rfl, _⟩ := z2.shape
 have S := St.start (Sat.whole W)
 go_enter Tryd.func5, Tryd.ntmps5
 refine wp_seq_k (fun K101 hK101 => region_wl ?_)
 refine do_ rfl (.bool false) (ex_assign _) ?_
 simp only [pS, pN, pA, pC, pZ]
 refine wl_nil (hK101 _ _ ?_)
 refine wp_seq_k (fun K102 hK102 => region_wl ?_)
 refine do_ rfl (.slice a1 l1.length c1) (ex_move _) ?_
 simp only [pS, pN, pA, pC, pZ]
 refine stGives S rfl (ex_fn (vs := #[(.slice a1 l1.length c1), (.int .i64 300)]) (map2 rfl rfl) rfl (ent_18 _ _)) (some_spec _ _ _ l1 300 (S).sat z1 (by omega) (by omega)) ?_
 intro v108 w103 F105 S104 le106 R107
 obtain ⟨xa109, xc110, rfl, _⟩ := R107.shape
 simp only [pS, pN, pA, pC, pZ]
 refine do_ rfl (.slice xa109 (l1.take 300).length xc110) (ex_assign _) ?_
 simp only [pS, pN, pA, pC, pZ]
 refine wl_nil (hK102 _ _ ?_)
 refine wp_seq_k (fun K111 hK111 => region_wl ?_)
 refine do_ rfl (.slice a2 l2.length c2) (ex_move _) ?_
 simp only [pS, pN, pA, pC, pZ]
 refine stGives S104 rfl (ex_fn (vs := #[(.slice a2 l2.length c2), (.int .i64 300)]) (map2 rfl rfl) rfl (ent_18 _ _)) (some_spec _ _ _ l2 300 (S104).sat (z2.mono le106) (by omega) (by omega)) ?_
 intro v117 w112 F114 S113 le115 R116
 obtain ⟨xa118, xc119, rfl, _⟩ := R116.shape
 simp only [pS, pN, pA, pC, pZ]
 refine do_ rfl (.slice xa118 (l2.take 300).length xc119) (ex_assign _) ?_
 simp only [pS, pN, pA, pC, pZ]
 refine wl_nil (hK111 _ _ ?_)
 refine wp_seq_k (fun K120 hK120 => ?_)
 have hx3 : (l1.take 300).length ≤ 300 := by rw [List.length_take]; omega
 have hy3 : (l2.take 300).length ≤ 300 := by rw [List.length_take]; omega
 refine region_wl ?_
 refine do_ rfl (bv kd) (ex_move _) ?_
 simp only [pS, pN, pA, pC, pZ]
 refine do_ rfl (.slice xa109 (l1.take 300).length xc110) (ex_move _) ?_
 simp only [pS, pN, pA, pC, pZ]
 refine do_ rfl (.int .i64 (((l1.take 300).length : Nat) : Int)) (ex_len Tryd.underlying22 rfl) ?_
 simp only [pS, pN, pA, pC, pZ]
 refine do_ rfl (.int .i64 ((((l1.take 300).length / 256) : Nat) : Int)) (ex_shrN (m := ((l1.take 300).length)) (n := 8) rfl rfl (by decide)) ?_
 simp only [pS, pN, pA, pC, pZ]
 refine do_ rfl (bv (b8 ((l1.take 300).length / 256))) (ex_convert (v := (.int .i64 ((((l1.take 300).length / 256) : Nat) : Int))) rfl (conv_b8 ((l1.take 300).length / 256) _)) ?_
 simp only [pS, pN, pA, pC, pZ]
 refine do_ rfl (.slice xa109 (l1.take 300).length xc110) (ex_move _) ?_
 simp only [pS, pN, pA, pC, pZ]
 refine do_ rfl (.int .i64 (((l1.take 300).length : Nat) : Int)) (ex_len Tryd.underlying22 rfl) ?_
 simp only [pS, pN, pA, pC, pZ]
 refine do_ rfl (bv (b8 ((l1.take 300).length))) (ex_convert (v := (.int .i64 (((l1.take 300).length : Nat) : Int))) rfl (conv_b8 ((l1.take 300).length) _)) ?_
 simp only [pS, pN, pA, pC, pZ]
 refine stNew S113 (v := fun n => .slice (some ⟨n, 0, none⟩) 3 3) rfl (ex_lit (ps := #[(0, (bv kd)), (1, (bv (b8 ((l1.take 300).length / 256)))), (2, (bv (b8 ((l1.take 300).length))))]) (cells := #[(bv kd), (bv (b8 ((l1.take 300).length / 256))), (bv (b8 ((l1.take 300).length)))]) (E := 5) (bmap3 rfl rfl rfl) (fun w => by kernel_rfl)) (fun n121 w122 S123 => ?_)
 simp only [pS, pN, pA, pC, pZ]
 have S123 : St W (whole W) w122 F114 [⟨n121, [(bv kd), (bv (b8 ((l1.take 300).length / 256))), (bv (b8 ((l1.take 300).length)))], 5⟩] [] := S123
 refine do_ rfl (.slice (some ⟨n121, 0, none⟩) 3 3) (ex_assign _) ?_
 simp only [pS, pN, pA, pC, pZ]
 refine wl_nil (hK120 _ _ ?_)
 refine wp_seq_k (fun K124 hK124 => ?_)
 have S125 : St W (whole W) w122 F114 [] [ownP 1 ByC ByC.mono 5 W.heap.size (.slice (some ⟨n121, 0, none⟩) 3 3) [kd, b8 ((l1.take 300).length / 256), b8 (l1.take 300).length]] := St.blkRow (k := 1) (l := [kd, b8 ((l1.take 300).length / 256), b8 (l1.take 300).length]) (el := [[(bv kd)], [(bv (b8 ((l1.take 300).length / 256)))], [(bv (b8 ((l1.take 300).length)))]]) (hR := ByC.mono) S123 rfl ⟨rfl, rfl, rfl, trivial⟩ (by simp) rfl (by simp) (by unfold maxLen; decide) (S123.blk _ (List.mem_cons_self ..)).2.2
 refine region_wl ?_
 refine do_ rfl (.slice (some ⟨n121, 0, none⟩) 3 3) (ex_move _) ?_
 simp only [pS, pN, pA, pC, pZ]
 refine do_ rfl (.slice xa109 (l1.take 300).length xc110) (ex_move _) ?_
 simp only [pS, pN, pA, pC, pZ]
 refine stAppendS (r := 0) (u := (.slice xa109 (l1.take 300).length xc110)) S125 rfl i5 (.int .u8 0) 1 Tryd.underlying22 hi5 hz5 hs5 hb5 rfl (by decide) rfl rfl rfl (Sl.toW (Bs.sl (R107.mono le115)) (S125).sat) ByC.one (Nat.le_refl _) S125.gr.below.size (by unfold maxLen; simp only [List.length_append, List.length_cons, List.length_nil, List.length_take]; omega) (by simp only [List.length_append, List.length_cons, List.length_nil, List.length_take]; omega) ?_
 intro v126 w127 S128 hn129
 simp only [pS, pN, pA, pC, pZ]
 have S128 : St W (whole W) w127 F114 [] [ownP 1 ByC ByC.mono 5 W.heap.size v126 ([kd, b8 ((l1.take 300).length / 256), b8 (l1.take 300).length] ++ (l1.take 300))] := S128
 refine do_ rfl v126 (ex_assign _) ?_
 simp only [pS, pN, pA, pC, pZ]
 refine wl_nil (hK124 _ _ ?_)
 refine wp_seq_k (fun K130 hK130 => region_wl ?_)
 refine do_ rfl v126 (ex_move _) ?_
 simp only [pS, pN, pA, pC, pZ]
 refine do_ rfl (.slice xa118 (l2.take 300).length xc119) (ex_move _) ?_
 simp only [pS, pN, pA, pC, pZ]
 refine do_ rfl (.int .i64 (((l2.take 300).length : Nat) : Int)) (ex_len Tryd.underlying22 rfl) ?_
 simp only [pS, pN, pA, pC, pZ]
 refine do_ rfl (.int .i64 ((((l2.take 300).length / 256) : Nat) : Int)) (ex_shrN (m := ((l2.take 300).length)) (n := 8) rfl rfl (by decide)) ?_
 simp only [pS, pN, pA, pC, pZ]
 refine do_ rfl (bv (b8 ((l2.take 300).length / 256))) (ex_convert (v := (.int .i64 ((((l2.take 300).length / 256) : Nat) : Int))) rfl (conv_b8 ((l2.take 300).length / 256) _)) ?_
 simp only [pS, pN, pA, pC, pZ]
 refine do_ rfl (.slice xa118 (l2.take 300).length xc119) (ex_move _) ?_
 simp only [pS, pN, pA, pC, pZ]
 refine do_ rfl (.int .i64 (((l2.take 300).length : Nat) : Int)) (ex_len Tryd.underlying22 rfl) ?_
 simp only [pS, pN, pA, pC, pZ]
 refine do_ rfl (bv (b8 ((l2.take 300).length))) (ex_convert (v := (.int .i64 (((l2.take 300).length : Nat) : Int))) rfl (conv_b8 ((l2.take 300).length) _)) ?_
 simp only [pS, pN, pA, pC, pZ]
 refine stNew S128 (v := fun n => .slice (some ⟨n, 0, none⟩) 2 2) rfl (ex_lit (ps := #[(0, (bv (b8 ((l2.take 300).length / 256)))), (1, (bv (b8 ((l2.take 300).length))))]) (cells := #[(bv (b8 ((l2.take 300).length / 256))), (bv (b8 ((l2.take 300).length)))]) (E := 5) (bmap2 rfl rfl) (fun w => by kernel_rfl)) (fun n131 w132 S133 => ?_)
 simp only [pS, pN, pA, pC, pZ]
 have S133 : St W (whole W) w132 F114 [⟨n131, [(bv (b8 ((l2.take 300).length / 256))), (bv (b8 ((l2.take 300).length)))], 5⟩] [ownP 1 ByC ByC.mono 5 W.heap.size v126 ([kd, b8 ((l1.take 300).length / 256), b8 (l1.take 300).length] ++ (l1.take 300))] := S133
 obtain ⟨S134, le135, hc136⟩ := St.freezeBlk S133 (i := 0) rfl
 have r138 : Bs _ (.slice (some ⟨n131, 0, none⟩) 2 2) ([(b8 ((l2.take 300).length / 256)), (b8 ((l2.take 300).length))] : By) := bs_of_block (l := ([(b8 ((l2.take 300).length / 256)), (b8 ((l2.take 300).length))] : By)) hc136 rfl (by unfold maxLen; simp)
 generalize addF F114 w132 n131 = F137 at *
 have S134 : St W (whole W) w132 F137 [] [ownP 1 ByC ByC.mono 5 W.heap.size v126 ([kd, b8 ((l1.take 300).length / 256), b8 (l1.take 300).length] ++ (l1.take 300))] := S134
 refine stAppendS (r := 0) (u := (.slice (some ⟨n131, 0, none⟩) 2 2)) S134 rfl i5 (.int .u8 0) 1 Tryd.underlying22 hi5 hz5 hs5 hb5 rfl (by decide) rfl rfl rfl (Sl.toW (Bs.sl r138) (S134).sat) ByC.one (Nat.le_refl _) S134.gr.below.size (by unfold maxLen; simp only [List.length_append, List.length_cons, List.length_nil, List.length_take]; omega) (by simp only [List.length_append, List.length_cons, List.length_nil, List.length_take]; omega) ?_
 intro v139 w140 S141 hn142
 simp only [pS, pN, pA, pC, pZ]
 have S141 : St W (whole W) w140 F137 [] [ownP 1 ByC ByC.mono 5 W.heap.size v139 (([kd, b8 ((l1.take 300).length / 256), b8 (l1.take 300).length] ++ (l1.take 300)) ++ ([(b8 ((l2.take 300).length / 256)), (b8 ((l2.take 300).length))] : By))] := S141
 refine do_ rfl v139 (ex_assign _) ?_
 simp only [pS, pN, pA, pC, pZ]
 refine wl_nil (hK130 _ _ ?_)
 refine wp_seq_k (fun K143 hK143 => region_wl ?_)
 refine do_ rfl v139 (ex_move _) ?_
 simp only [pS, pN, pA, pC, pZ]
 refine do_ rfl (.slice xa118 (l2.take 300).length xc119) (ex_move _) ?_
 simp only [pS, pN, pA, pC, pZ]
 refine stAppendS (r := 0) (u := (.slice xa118 (l2.take 300).length xc119)) S141 rfl i5 (.int .u8 0) 1 Tryd.underlying22 hi5 hz5 hs5 hb5 rfl (by decide) rfl rfl rfl (Sl.toW (Bs.sl (R116.mono le135)) (S141).sat) ByC.one (Nat.le_refl _) S141.gr.below.size (by unfold maxLen; simp only [List.length_append, List.length_cons, List.length_nil, List.length_take]; omega) (by simp only [List.length_append, List.length_cons, List.length_nil, List.length_take]; omega) ?_
 intro v144 w145 S146 hn147
 simp only [pS, pN, pA, pC, pZ]
 have S146 : St W (whole W) w145 F137 [] [ownP 1 ByC ByC.mono 5 W.heap.size v144 ((([kd, b8 ((l1.take 300).length / 256), b8 (l1.take 300).length] ++ (l1.take 300)) ++ ([(b8 ((l2.take 300).length / 256)), (b8 ((l2.take 300).length))] : By)) ++ (l2.take 300))] := S146
 refine do_ rfl v144 (ex_assign _) ?_
 simp only [pS, pN, pA, pC, pZ]
 refine wl_nil (hK143 _ _ ?_)
 refine wp_seq_k (fun K148 hK148 => region_wl ?_)
 refine do_ rfl (bv kd) (ex_move _) ?_
 simp only [pS, pN, pA, pC, pZ]
 refine do_ rfl (.slice xa109 (l1.take 300).length xc110) (ex_move _) ?_
 simp only [pS, pN, pA, pC, pZ]
 refine do_ rfl (.slice xa118 (l2.take 300).length xc119) (ex_move _) ?_
 simp only [pS, pN, pA, pC, pZ]
 refine stNew S146 (v := fun n => .slice (some ⟨n, 0, none⟩) 2 2) rfl (ex_lit (ps := #[(0, (.slice xa109 (l1.take 300).length xc110)), (1, (.slice xa118 (l2.take 300).length xc119))]) (cells := #[(.slice xa109 (l1.take 300).length xc110), (.slice xa118 (l2.take 300).length xc119)]) (E := 22) (bmap2 rfl rfl) (fun w => by kernel_rfl)) (fun n149 w150 S151 => ?_)
 simp only [pS, pN, pA, pC, pZ]
 have S151 : St W (whole W) w150 F137 [⟨n149, [(.slice xa109 (l1.take 300).length xc110), (.slice xa118 (l2.take 300).length xc119)], 22⟩] [ownP 1 ByC ByC.mono 5 W.heap.size v144 ((([kd, b8 ((l1.take 300).length / 256), b8 (l1.take 300).length] ++ (l1.take 300)) ++ ([(b8 ((l2.take 300).length / 256)), (b8 ((l2.take 300).length))] : By)) ++ (l2.take 300))] := S151
 obtain ⟨S152, le153, hc154⟩ := St.freezeBlk S151 (i := 0) rfl
 have r156 : Lss _ (.slice (some ⟨n149, 0, none⟩) 2 2) ([(l1.take 300), (l2.take 300)] : List By) := sl_of_block (R := LsC) (l := ([(l1.take 300), (l2.take 300)] : List By)) (el := [[(.slice xa109 (l1.take 300).length xc110)], [(.slice xa118 (l2.take 300).length xc119)]]) hc154 rfl ⟨⟨_, rfl, ((R107.mono (le115.trans le135)).mono le153)⟩, ⟨_, rfl, ((R116.mono le135).mono le153)⟩, trivial⟩ (by simp) (by unfold maxLen; simp)
 generalize addF F137 w150 n149 = F155 at *
 have S152 : St W (whole W) w150 F155 [] [ownP 1 ByC ByC.mono 5 W.heap.size v144 ((([kd, b8 ((l1.take 300).length / 256), b8 (l1.take 300).length] ++ (l1.take 300)) ++ ([(b8 ((l2.take 300).length / 256)), (b8 ((l2.take 300).length))] : By)) ++ (l2.take 300))] := S152
 refine stGives S152 rfl (ex_fn (vs := #[(bv kd), (.slice (some ⟨n149, 0, none⟩) 2 2)]) (map2 rfl rfl) rfl (ent_20 _ _)) (Parts_spec _ _ _ kd [(l1.take 300), (l2.take 300)] (S152).sat (hT.at S152.gr.below) r156 (by first | (simp [partB_len]; omega) | simp)) ?_
 intro v162 w157 F159 S158 le160 R161
 obtain ⟨x163, rfl, r164⟩ := R161
 obtain ⟨xa165, xc166, rfl, _⟩ := r164.shape
 have r164 : Bs _ (.slice xa165 (partsL kd [(l1.take 300), (l2.take 300)]).length xc166) (partsL kd [(l1.take 300), (l2.take 300)]) := r164
 simp only [pS, pN, pA, pC, pZ]
 refine do_ rfl (.tuple #[(.slice xa165 (partsL kd [(l1.take 300), (l2.take 300)]).length xc166), (.int .i64 0)]) (ex_move _) ?_
 simp only [pS, pN, pA, pC, pZ]
 refine do_ rfl (.slice xa165 (partsL kd [(l1.take 300), (l2.take 300)]).length xc166) (ex_extract rfl rfl) ?_
 simp only [pS, pN, pA, pC, pZ]
 refine do_ rfl (.int .i64 0) (ex_extract rfl rfl) ?_
 simp only [pS, pN, pA, pC, pZ]
 refine do_ rfl (.slice xa165 (partsL kd [(l1.take 300), (l2.take 300)]).length xc166) (ex_assign _) ?_
 simp only [pS, pN, pA, pC, pZ]
 refine do_ rfl (.int .i64 0) (ex_assign _) ?_
 simp only [pS, pN, pA, pC, pZ]
 refine wl_nil (hK148 _ _ ?_)
 refine wp_seq_k (fun K167 hK167 => region_wl ?_)
 refine do_ rfl v144 (ex_move _) ?_
 simp only [pS, pN, pA, pC, pZ]
 obtain ⟨F168, S169, le170, hv171⟩ := St.freeze S158 (i := 0) rfl (Nat.le_refl _)
 have S169 : St W (whole W) w157 F168 [] [] := S169
 have hv171 : Bys _ v144 ((([kd, b8 ((l1.take 300).length / 256), b8 (l1.take 300).length] ++ (l1.take 300)) ++ ([(b8 ((l2.take 300).length / 256)), (b8 ((l2.take 300).length))] : By)) ++ (l2.take 300)) := hv171
 have r172 := bs_of_sl hv171
 obtain ⟨a173, c174, rfl, _⟩ := r172.shape
 refine stGives S169 rfl (ex_fn (vs := #[(.slice a173 ((([kd, b8 ((l1.take 300).length / 256), b8 (l1.take 300).length] ++ (l1.take 300)) ++ ([(b8 ((l2.take 300).length / 256)), (b8 ((l2.take 300).length))] : By)) ++ (l2.take 300)).length c174)]) (map1 rfl) rfl (ent_15 _ _)) (Sum_spec _ _ _ ((([kd, b8 ((l1.take 300).length / 256), b8 (l1.take 300).length] ++ (l1.take 300)) ++ ([(b8 ((l2.take 300).length / 256)), (b8 ((l2.take 300).length))] : By)) ++ (l2.take 300)) (S169).sat (hT.at S169.gr.below) r172 (by simp only [List.length_append, List.length_cons, List.length_nil]; omega)) ?_
 intro v180 w175 F177 S176 le178 R179
 obtain ⟨x181, rfl, r182⟩ := R179
 obtain ⟨xa183, xc184, rfl, _⟩ := r182.shape
 have r182 : Bs _ (.slice xa183 (sumL ((([kd, b8 ((l1.take 300).length / 256), b8 (l1.take 300).length] ++ (l1.take 300)) ++ ([(b8 ((l2.take 300).length / 256)), (b8 ((l2.take 300).length))] : By)) ++ (l2.take 300))).length xc184) (sumL ((([kd, b8 ((l1.take 300).length / 256), b8 (l1.take 300).length] ++ (l1.take 300)) ++ ([(b8 ((l2.take 300).length / 256)), (b8 ((l2.take 300).length))] : By)) ++ (l2.take 300))) := r182
 simp only [pS, pN, pA, pC, pZ]
 refine do_ rfl (.tuple #[(.slice xa183 (sumL ((([kd, b8 ((l1.take 300).length / 256), b8 (l1.take 300).length] ++ (l1.take 300)) ++ ([(b8 ((l2.take 300).length / 256)), (b8 ((l2.take 300).length))] : By)) ++ (l2.take 300))).length xc184), (.int .i64 0)]) (ex_move _) ?_
 simp only [pS, pN, pA, pC, pZ]
 refine do_ rfl (.slice xa183 (sumL ((([kd, b8 ((l1.take 300).length / 256), b8 (l1.take 300).length] ++ (l1.take 300)) ++ ([(b8 ((l2.take 300).length / 256)), (b8 ((l2.take 300).length))] : By)) ++ (l2.take 300))).length xc184) (ex_extract rfl rfl) ?_
 simp only [pS, pN, pA, pC, pZ]
 refine do_ rfl (.int .i64 0) (ex_extract rfl rfl) ?_
 simp only [pS, pN, pA, pC, pZ]
 refine do_ rfl (.slice xa183 (sumL ((([kd, b8 ((l1.take 300).length / 256), b8 (l1.take 300).length] ++ (l1.take 300)) ++ ([(b8 ((l2.take 300).length / 256)), (b8 ((l2.take 300).length))] : By)) ++ (l2.take 300))).length xc184) (ex_assign _) ?_
 simp only [pS, pN, pA, pC, pZ]
 refine do_ rfl (.int .i64 0) (ex_assign _) ?_
 simp only [pS, pN, pA, pC, pZ]
 refine wl_nil (hK167 _ _ ?_)
 refine wp_seq_k (fun K185 hK185 => region_wl ?_)
 refine do_ rfl (bv kd) (ex_move _) ?_
 simp only [pS, pN, pA, pC, pZ]
 refine stGives S176 rfl (ex_fn (vs := #[(bv kd), (.slice none 0 0)]) (map2 rfl rfl) rfl (ent_20 _ _)) (Parts_spec _ _ _ kd [] (S176).sat (hT.at S176.gr.below) (Sl.nil 1 LsC _) (by first | (simp [partB_len]; omega) | simp)) ?_
 intro v191 w186 F188 S187 le189 R190
 obtain ⟨x192, rfl, r193⟩ := R190
 obtain ⟨xa194, xc195, rfl, _⟩ := r193.shape
 have r193 : Bs _ (.slice xa194 (partsL kd []).length xc195) (partsL kd []) := r193
 simp only [pS, pN, pA, pC, pZ]
 refine do_ rfl (.tuple #[(.slice xa194 (partsL kd []).length xc195), (.int .i64 0)]) (ex_move _) ?_
 simp only [pS, pN, pA, pC, pZ]
 refine do_ rfl (.slice xa194 (partsL kd []).length xc195) (ex_extract rfl rfl) ?_
 simp only [pS, pN, pA, pC, pZ]
 refine do_ rfl (.int .i64 0) (ex_extract rfl rfl) ?_
 simp only [pS, pN, pA, pC, pZ]
 refine do_ rfl (.slice xa194 (partsL kd []).length xc195) (ex_assign _) ?_
 simp only [pS, pN, pA, pC, pZ]
 refine do_ rfl (.int .i64 0) (ex_assign _) ?_
 simp only [pS, pN, pA, pC, pZ]
 refine wl_nil (hK185 _ _ ?_)
 refine wp_seq_k (fun K196 hK196 => region_wl ?_)
 refine do_ rfl (bv kd) (ex_move _) ?_
 simp only [pS, pN, pA, pC, pZ]
 refine stNew S187 (v := fun n => .slice (some ⟨n, 0, none⟩) 1 1) rfl (ex_lit (ps := #[(0, (bv kd))]) (cells := #[(bv kd)]) (E := 5) (bmap1 rfl) (fun w => by kernel_rfl)) (fun n197 w198 S199 => ?_)
 simp only [pS, pN, pA, pC, pZ]
 have S199 : St W (whole W) w198 F188 [⟨n197, [(bv kd)], 5⟩] [] := S199
 obtain ⟨S200, le201, hc202⟩ := St.freezeBlk S199 (i := 0) rfl
 have r204 : Bs _ (.slice (some ⟨n197, 0, none⟩) 1 1) ([kd] : By) := bs_of_block (l := ([kd] : By)) hc202 rfl (by unfold maxLen; simp)
 generalize addF F188 w198 n197 = F203 at *
 have S200 : St W (whole W) w198 F203 [] [] := S200
 refine stGives S200 rfl (ex_fn (vs := #[(.slice (some ⟨n197, 0, none⟩) 1 1)]) (map1 rfl) rfl (ent_15 _ _)) (Sum_spec _ _ _ ([kd] : By) (S200).sat (hT.at S200.gr.below) r204 (by simp only [List.length_append, List.length_cons, List.length_nil]; omega)) ?_
 intro v210 w205 F207 S206 le208 R209
 obtain ⟨x211, rfl, r212⟩ := R209
 obtain ⟨xa213, xc214, rfl, _⟩ := r212.shape
 have r212 : Bs _ (.slice xa213 (sumL ([kd] : By)).length xc214) (sumL ([kd] : By)) := r212
 simp only [pS, pN, pA, pC, pZ]
 refine do_ rfl (.tuple #[(.slice xa213 (sumL ([kd] : By)).length xc214), (.int .i64 0)]) (ex_move _) ?_
 simp only [pS, pN, pA, pC, pZ]
 refine do_ rfl (.slice xa213 (sumL ([kd] : By)).length xc214) (ex_extract rfl rfl) ?_
 simp only [pS, pN, pA, pC, pZ]
 refine do_ rfl (.int .i64 0) (ex_extract rfl rfl) ?_
 simp only [pS, pN, pA, pC, pZ]
 refine do_ rfl (.slice xa213 (sumL ([kd] : By)).length xc214) (ex_assign _) ?_
 simp only [pS, pN, pA, pC, pZ]
 refine do_ rfl (.int .i64 0) (ex_assign _) ?_
 simp only [pS, pN, pA, pC, pZ]
 refine wl_nil (hK196 _ _ ?_)
 refine wp_seq_k (fun K215 hK215 => region_wl ?_)
 refine do_ rfl (.int .i64 0) (ex_move _) ?_
 simp only [pS, pN, pA, pC, pZ]
 refine do_ rfl (.bool true) (ex_eql (b := true) rfl rfl (by decide)) ?_
 simp only [pS, pN, pA, pC, pZ]
 refine do_ rfl (.bool true) (ex_move _) ?_
 simp only [pS, pN, pA, pC, pZ]
 refine do_ rfl (.int .i64 0) (ex_move _) ?_
 simp only [pS, pN, pA, pC, pZ]
 refine do_ rfl (.bool true) (ex_eql (b := true) rfl rfl (by decide)) ?_
 simp only [pS, pN, pA, pC, pZ]
 refine do_ rfl (.bool true) (ex_pick (b := true) rfl) ?_
 simp only [pS, pN, pA, pC, pZ]
 refine do_ rfl (.bool true) (ex_move _) ?_
 simp only [pS, pN, pA, pC, pZ]
 refine do_ rfl (.int .i64 0) (ex_move _) ?_
 simp only [pS, pN, pA, pC, pZ]
 refine do_ rfl (.bool true) (ex_eql (b := true) rfl rfl (by decide)) ?_
 simp only [pS, pN, pA, pC, pZ]
 refine do_ rfl (.bool true) (ex_pick (b := true) rfl) ?_
 simp only [pS, pN, pA, pC, pZ]
 refine do_ rfl (.bool true) (ex_move _) ?_
 simp only [pS, pN, pA, pC, pZ]
 refine do_ rfl (.int .i64 0) (ex_move _) ?_
 simp only [pS, pN, pA, pC, pZ]
 refine do_ rfl (.bool true) (ex_eql (b := true) rfl rfl (by decide)) ?_
 simp only [pS, pN, pA, pC, pZ]
 refine do_ rfl (.bool true) (ex_pick (b := true) rfl) ?_
 simp only [pS, pN, pA, pC, pZ]
 refine do_ rfl (.bool true) (ex_move _) ?_
 simp only [pS, pN, pA, pC, pZ]
 refine do_ rfl (.slice xa165 (partsL kd [(l1.take 300), (l2.take 300)]).length xc166) (ex_move _) ?_
 simp only [pS, pN, pA, pC, pZ]
 refine do_ rfl (.slice xa183 (sumL ((([kd, b8 ((l1.take 300).length / 256), b8 (l1.take 300).length] ++ (l1.take 300)) ++ ([(b8 ((l2.take 300).length / 256)), (b8 ((l2.take 300).length))] : By)) ++ (l2.take 300))).length xc184) (ex_move _) ?_
 simp only [pS, pN, pA, pC, pZ]
 refine stTells (v := (.bool true)) S206 rfl (ex_fn (vs := #[(.slice xa165 (partsL kd [(l1.take 300), (l2.take 300)]).length xc166), (.slice xa183 (sumL ((([kd, b8 ((l1.take 300).length / 256), b8 (l1.take 300).length] ++ (l1.take 300)) ++ ([(b8 ((l2.take 300).length / 256)), (b8 ((l2.take 300).length))] : By)) ++ (l2.take 300))).length xc184)]) (map2 rfl rfl) rfl (ent_16 _ _)) (tells_bool (tells_same (same_spec _ _ _ _ (partsL kd [(l1.take 300), (l2.take 300)]) (sumL ((([kd, b8 ((l1.take 300).length / 256), b8 (l1.take 300).length] ++ (l1.take 300)) ++ ([(b8 ((l2.take 300).length / 256)), (b8 ((l2.take 300).length))] : By)) ++ (l2.take 300))) (S206).sat (r164.mono ((((le170.trans le178).trans le189).trans le201).trans le208)) (r182.mono ((le189.trans le201).trans le208)))) (beq_iff_eq.2 (parts_two kd _ _ (by omega) (by omega)))) (fun w216 S217 => ?_)
 simp only [pS, pN, pA, pC, pZ]
 refine do_ rfl (.bool true) (ex_pick (b := true) rfl) ?_
 simp only [pS, pN, pA, pC, pZ]
 refine do_ rfl (.bool true) (ex_move _) ?_
 simp only [pS, pN, pA, pC, pZ]
 refine do_ rfl (.slice xa194 (partsL kd []).length xc195) (ex_move _) ?_
 simp only [pS, pN, pA, pC, pZ]
 refine do_ rfl (.slice xa213 (sumL ([kd] : By)).length xc214) (ex_move _) ?_
 simp only [pS, pN, pA, pC, pZ]
 refine stTells (v := (.bool true)) S217 rfl (ex_fn (vs := #[(.slice xa194 (partsL kd []).length xc195), (.slice xa213 (sumL ([kd] : By)).length xc214)]) (map2 rfl rfl) rfl (ent_16 _ _)) (tells_bool (tells_same (same_spec _ _ _ _ (partsL kd []) (sumL ([kd] : By)) (S217).sat (r193.mono (le201.trans le208)) r212)) (beq_iff_eq.2 (parts_none kd))) (fun w218 S219 => ?_)
 simp only [pS, pN, pA, pC, pZ]
 refine do_ rfl (.bool true) (ex_pick (b := true) rfl) ?_
 simp only [pS, pN, pA, pC, pZ]
 refine do_ rfl (.bool true) (ex_move _) ?_
 simp only [pS, pN, pA, pC, pZ]
 refine do_ rfl (.slice xa165 (partsL kd [(l1.take 300), (l2.take 300)]).length xc166) (ex_move _) ?_
 simp only [pS, pN, pA, pC, pZ]
 refine do_ rfl (.int .i64 (((partsL kd [(l1.take 300), (l2.take 300)]).length : Nat) : Int)) (ex_len Tryd.underlying22 rfl) ?_
 simp only [pS, pN, pA, pC, pZ]
 refine do_ rfl (.bool true) (ex_eql (m := (((partsL kd [(l1.take 300), (l2.take 300)]).length : Nat) : Int)) (n := (32 : Int)) (b := true) rfl rfl (beq_iff_eq.2 (by rw [partsL_len]; rfl))) ?_
 simp only [pS, pN, pA, pC, pZ]
 refine do_ rfl (.bool true) (ex_pick (b := true) rfl) ?_
 simp only [pS, pN, pA, pC, pZ]
 refine do_ rfl (.bool true) (ex_assign _) ?_
 simp only [pS, pN, pA, pC, pZ]
 refine wl_nil (hK215 _ _ ?_)
 refine wp_ret ?_
 (try simp only [Exit.then, Exit.inBlock, ↓reduceIte, Nat.reduceEqDiff])
 refine bodyPost_ret (v := (.bool true)) ?_ rfl ?_
 ·exact res_t rfl rfl
 ·exact ⟨rfl, S219.gr.below⟩
end Go.Proofs.YtcanckliggcllaaDoor
