/- Rules, plain laws and walks: K2 K3 S8 S9 S10 -/
import Derived.Test.YtcanckliggcllaaDoorCA3
import Derived.OrdersHeld
namespace Go.Proofs.YtcanckliggcllaaDoor
open Go.RowKit
set_option maxRecDepth 100000
set_option linter.unusedVariables false
set_option linter.unusedSimpArgs false
set_option maxHeartbeats 8000000 in
theorem pairs_spec (F : Fz) (w : World) (v : Value) (l : List Pr) (m : Nat) (hs : Sat w F) (hv : Prs F v l) (hm : m ≤ 100000) :
    Calls Tryd.prog 24 #[v, .int .i64 (m : Nat)] w (GivesO w F 2 PrC 38 (pairsN l m)) := by
 obtain ⟨a, c, rfl, hc1, hc2⟩ := Sl.shape hv
 unfold maxLen at hc2
 obtain ⟨i38, hi38, hz38, hs38, hb38⟩ := info_parts info_38
 have S := St.start hs
 go_enter Tryd.func24, Tryd.ntmps24
 refine wp_seq_k (fun K1 hK1 => region_wl ?_)
 refine do_ rfl (.slice none 0 0) (ex_assign _) ?_
 simp only [pS, pN, pA, pC, pZ]
 refine wl_nil (hK1 _ _ ?_)
 refine wp_seq_k (fun K2 hK2 => region_wl ?_)
 refine do_ rfl (.slice none 0 0) (ex_assign _) ?_
 simp only [pS, pN, pA, pC, pZ]
 refine wl_nil (hK2 _ _ ?_)
 refine wp_seq_k (fun K3 hK3 => ?_)
 refine wp_seq_k (fun K4 hK4 => region_wl ?_)
 refine do_ rfl (.int .i64 0) (ex_assign _) ?_
 simp only [pS, pN, pA, pC, pZ]
 refine wl_nil (hK4 _ _ ?_)
 refine wp_block ?_
 have S5 := St.addNil S 2 PrC PrC.mono 38 w.heap.size
 refine wp_loop_g (fun mm aa w8 => ∃ (i : Nat) (v : Value) (F6 : Fz) (u7 : Nat → Value), mm = l.length - i ∧ aa = ⟨#[(.slice a l.length c), (.int .i64 ((m : Nat) : Int)), undef, undef, (.slice none 0 0), v, (.int .i64 ((i : Nat) : Int)), (u7 7), (u7 8), (u7 9), (u7 10), (u7 11), (u7 12), (u7 13), (u7 14), (u7 15), (u7 16), (u7 17), (u7 18), (u7 19), (u7 20), (u7 21), (u7 22), (u7 23), (u7 24), (u7 25), (u7 26), (u7 27), (u7 28), (u7 29), (u7 30), (u7 31), (u7 32), (u7 33), (u7 34), (u7 35), (u7 36), (u7 37), (u7 38), (u7 39), (u7 40), (u7 41), (u7 42), (u7 43), (u7 44), (u7 45), (u7 46), (u7 47), (u7 48), (u7 49), (u7 50), (u7 51), (u7 52), (u7 53), (u7 54), (u7 55), (u7 56), (u7 57), (u7 58), (u7 59), (u7 60), (u7 61), (u7 62), (u7 63), (u7 64), (u7 65), (u7 66), (u7 67), (u7 68), (u7 69), (u7 70), (u7 71), (u7 72), (u7 73), (u7 74), (u7 75), (u7 76), (u7 77), (u7 78), (u7 79), (u7 80), (u7 81), (u7 82), (u7 83), undef], []⟩ ∧ St w F w8 F6 [] [ownP 2 PrC PrC.mono 38 w.heap.size v (pairsN l i)] ∧ Le F F6 ∧ (i ≤ l.length) ∧ (i ≤ m)) _ ⟨0, (.slice none 0 0), F, (slotF [(.slice a l.length c), (.int .i64 ((m : Nat) : Int)), undef, undef, (.slice none 0 0), (.slice none 0 0), (.int .i64 0), undef, undef, undef, undef, undef, undef, undef, undef, undef, undef, undef, undef, undef, undef, undef, undef, undef, undef, undef, undef, undef, undef, undef, undef, undef, undef, undef, undef, undef, undef, undef, undef, undef, undef, undef, undef, undef, undef, undef, undef, undef, undef, undef, undef, undef, undef, undef, undef, undef, undef, undef, undef, undef, undef, undef, undef, undef, undef, undef, undef, undef, undef, undef, undef, undef, undef, undef, undef, undef, undef, undef, undef, undef, undef, undef, undef, undef, undef]), rfl, rfl, S5, Le.refl _, (by omega), (by omega)⟩ ?_
 rintro m9 a10 w11 ⟨i, v, F6, u7, rfl, rfl, S12, le13, hi, him⟩ K14 hK14
 refine wp_seq_k (fun K15 hK15 => ?_)
 refine wp_seq_k (fun K16 hK16 => region_wl ?_)
 refine do_ rfl (.int .i64 ((i : Nat) : Int)) (ex_move _) ?_
 simp only [pS, pN, pA, pC, pZ]
 refine do_ rfl (.slice a l.length c) (ex_move _) ?_
 simp only [pS, pN, pA, pC, pZ]
 refine do_ rfl (.int .i64 ((l.length : Nat) : Int)) (ex_len Tryd.underlying44 rfl) ?_
 simp only [pS, pN, pA, pC, pZ]
 by_cases hc13 : i < l.length
 ·refine do_ rfl (.bool true) (ex_lss (m := ((i : Nat) : Int)) (n := ((l.length : Nat) : Int)) (b := true) rfl rfl (decide_eq_true (by omega))) ?_
  simp only [pS, pN, pA, pC, pZ]
  refine do_ rfl (.bool true) (ex_move _) ?_
  simp only [pS, pN, pA, pC, pZ]
  refine do_ rfl (.int .i64 ((i : Nat) : Int)) (ex_move _) ?_
  simp only [pS, pN, pA, pC, pZ]
  refine do_ rfl (.int .i64 ((m : Nat) : Int)) (ex_move _) ?_
  simp only [pS, pN, pA, pC, pZ]
  by_cases hc17 : i < m
  ·refine do_ rfl (.bool true) (ex_lss (m := ((i : Nat) : Int)) (n := ((m : Nat) : Int)) (b := true) rfl rfl (decide_eq_true (by omega))) ?_
   simp only [pS, pN, pA, pC, pZ]
   refine do_ rfl (.bool true) (ex_pick (b := true) rfl) ?_
   simp only [pS, pN, pA, pC, pZ]
   refine wl_nil (hK16 _ _ ?_)
   refine wp_cond_true rfl ?_
   refine wp_skip ?_
   refine hK15 _ _ ?_
   refine wp_seq_k (fun K17 hK17 => ?_)
   refine wp_block ?_
   refine wp_seq_k (fun K18 hK18 => ?_)
   obtain ⟨it, hit⟩ : ∃ it, l[i]? = some it := ⟨l[i]'(by omega), List.getElem?_eq_getElem (by omega)⟩
   obtain ⟨b19, o20, ha21, xa23, xc24, xa27, xc28, c22, c26, r25, r29⟩ := Prs.get (hv.mono le13) hit
   obtain ⟨a30, cap31, rfl, h32, h33⟩ := (S12.own (i := 0) rfl).shape
   unfold maxLen at h33
   have hol := pairsN_len l i
   have hor := pairsN_rise l i
   have hnew : pairsN l (i + 1) = putT (pairsN l i) (keyL it.1) (it.2.take 32) := pairsN_succ hit
   refine region_gw F6 14 [(5, .made (fun F' u => Bs F' u (keyL it.1))), (11, .made (fun F' u => Bs F' u (it.2.take 32))), (12, .made (fun F' u => Pr2V F' u ((keyL it.1), (it.2.take 32)))), (13, .rel (NewAt w11 [(.slice none 0 0), (.slice none 0 0)] 38) (NewAt.stable _ _ _))] (by kernel_rfl) (by kernel_rfl) ?_
   simp only [List.take_succ_cons, List.take_zero]
   refine gw_pure rfl rfl (.slice a l.length c) (fun w34 hCw34 => pureAt_of (ex_move _)) ?_
   simp only [pS, pN, pA, pC, pZ]
   refine gw_pure rfl rfl (.int .i64 ((i : Nat) : Int)) (fun w34 hCw34 => pureAt_of (ex_move _)) ?_
   simp only [pS, pN, pA, pC, pZ]
   refine gw_pure rfl rfl (.pointer (some ⟨b19, o20 + i * 2, none⟩)) (fun w34 hCw34 => pureAt_of (ex_at (i := i) (sz := 2) Tryd.underlying44 (sizeof_36 _) rfl ha21 rfl (by omega) rfl)) ?_
   simp only [pS, pN, pA, pC, pZ]
   refine gw_pure rfl rfl (.pointer (some ⟨b19, o20 + i * 2, none⟩)) (fun w34 hCw34 => pureAt_of (ex_field (q := ⟨b19, o20 + i * 2, none⟩) rfl (fa_36_0 _ _))) ?_
   simp only [pS, pN, pA, pC, pZ]
   refine gw_pure rfl rfl (.slice xa23 it.1.length xc24) (fun w34 hCw34 => pureAt_of (ex_load rfl (load1 (nagg_22 _) (St.fz (St.tells S12 hCw34) c22)))) ?_
   simp only [pS, pN, pA, pC, pZ]
   refine gw_rel rfl rfl (fun w34 hCw34 hF => does_call (ex_fn (vs := #[(.slice xa23 it.1.length xc24)]) (map1 rfl) rfl (ent_21 _ _)) (call_made S12.sat hCw34 (key_spec _ _ _ it.1 ((St.tells S12 hCw34)).sat r25))) (fun v35 => ?_)
   simp only [pS, pN, pA, pC, pZ]
   refine gw_pure rfl rfl (.slice a l.length c) (fun w34 hCw34 => pureAt_of (ex_move _)) ?_
   simp only [pS, pN, pA, pC, pZ]
   refine gw_pure rfl rfl (.int .i64 ((i : Nat) : Int)) (fun w34 hCw34 => pureAt_of (ex_move _)) ?_
   simp only [pS, pN, pA, pC, pZ]
   refine gw_pure rfl rfl (.pointer (some ⟨b19, o20 + i * 2, none⟩)) (fun w34 hCw34 => pureAt_of (ex_at (i := i) (sz := 2) Tryd.underlying44 (sizeof_36 _) rfl ha21 rfl (by omega) rfl)) ?_
   simp only [pS, pN, pA, pC, pZ]
   refine gw_pure rfl rfl (.pointer (some ⟨b19, o20 + i * 2 + 1, none⟩)) (fun w34 hCw34 => pureAt_of (ex_field (q := ⟨b19, o20 + i * 2 + 1, none⟩) rfl (fa_36_1 _ _))) ?_
   simp only [pS, pN, pA, pC, pZ]
   refine gw_pure rfl rfl (.slice xa27 it.2.length xc28) (fun w34 hCw34 => pureAt_of (ex_load rfl (load1 (nagg_22 _) (St.fz (St.tells S12 hCw34) c26)))) ?_
   simp only [pS, pN, pA, pC, pZ]
   refine gw_rel rfl rfl (fun w34 hCw34 hF => does_call (ex_fn (vs := #[(.slice xa27 it.2.length xc28), (.int .i64 32)]) (map2 rfl rfl) rfl (ent_18 _ _)) (call_made S12.sat hCw34 (some_spec _ _ _ it.2 32 ((St.tells S12 hCw34)).sat r29 (by omega) (by omega)))) (fun v36 => ?_)
   simp only [pS, pN, pA, pC, pZ]
   refine gw_rel rfl rfl (fun w34 hCw34 hF_ => ?_) (fun v37 => ?_)
   ·obtain ⟨F38, g39, R40⟩ := hF_.get 5 (by kernel_rfl) rfl rfl
    obtain ⟨F43, g44, R45⟩ := hF_.get 11 (by kernel_rfl) rfl rfl
    have hR0 := (R40.mono (both_left F38 F43))
    obtain ⟨xa48, xc49, rfl, _⟩ := hR0.shape
    have hR1 := (R45.mono (both_right g39.sat g44.sat))
    obtain ⟨xa50, xc51, rfl, _⟩ := hR1.shape
    exact does_val (ex_build (bmap2 rfl rfl) (by kernel_rfl)) ⟨(both F38 F43), (g39.both g44), ⟨_, _, _, _, rfl, hR0, hR1⟩⟩ (Below.refl _ _)
   simp only [pS, pN, pA, pC, pZ]
   refine gw_rel rfl rfl (fun w34 hCw34 _ => does_alloc (cs := [(.slice none 0 0), (.slice none 0 0)]) (zero_38 _) rfl hCw34) (fun v52 => ?_)
   simp only [pS, pN, pA, pC, pZ]
   refine gw_nil ?_
   intro w53 hC55 hF56
   obtain ⟨n57, rfl, hn58, hb59⟩ := hF56.getR 13 rfl rfl
   have hnbn57 : ∀ u ∈ [(.slice none 0 0), (.slice none 0 0)], ∀ x, u ≠ bv x := by intro u hu x; simp only [List.mem_cons, List.not_mem_nil, or_false] at hu; rcases hu with rfl | rfl <;> (unfold bv; simp)
   obtain ⟨F60, g61, R62⟩ := hF56.get 12 rfl rfl
   have g63 := g61.dropF S12.sat hn58
   have R64 := Pr2V.dropF g61.sat hb59 hnbn57 R62
   have S54 := St.addBlk (cs := [(.slice none 0 0), (.slice none 0 0)]) S12 g63 hn58 (dropF_at _ _) hb59
   have le66 : Le _ _ := g63.le S12.sat
   have R67 := R64
   generalize (dropF F60 n57) = F65 at *
   obtain ⟨xa68, xc69, xa71, xc72, rfl, r70, r73⟩ := R67
   have r70 : Bs _ (.slice xa68 (keyL it.1).length xc69) (keyL it.1) := r70
   have r73 : Bs _ (.slice xa71 (it.2.take 32).length xc72) (it.2.take 32) := r73
   clear hF56
   simp only [List.drop_succ_cons, List.drop_zero]
   have S54 : St w F w53 F65 [⟨n57, [(.slice none 0 0), (.slice none 0 0)], 38⟩] [ownP 2 PrC PrC.mono 38 w.heap.size (.slice a30 (pairsN l i).length cap31) (pairsN l i)] := S54
   refine stStore (i := 0) (v := (.agg #[(.slice xa68 (keyL it.1).length xc69), (.slice xa71 (it.2.take 32).length xc72)])) S54 rfl rfl rfl rfl (size_38) (allc2 rfl rfl) (Nat.le_of_ble_eq_true rfl) (fun w74 S75 => ?_)
   simp only [pS, pN, pA, pC, pZ]
   have S75 : St w F w74 F65 [⟨n57, [(.slice xa68 (keyL it.1).length xc69), (.slice xa71 (it.2.take 32).length xc72)], 38⟩] [ownP 2 PrC PrC.mono 38 w.heap.size (.slice a30 (pairsN l i).length cap31) (pairsN l i)] := S75
   refine wl_nil (hK18 _ _ ?_)
   refine wp_seq_k (fun K76 hK76 => region_wl ?_)
   refine do_ rfl (.int .i64 0) (ex_assign _) ?_
   simp only [pS, pN, pA, pC, pZ]
   refine wl_nil (hK76 _ _ ?_)
   refine wp_seq_k (fun K77 hK77 => ?_)
   refine wp_block ?_
   refine wp_loop_g (fun mm aa w79 => ∃ (k : Nat) (u78 : Nat → Value), mm = (pairsN l i).length - k ∧ aa = ⟨#[(.slice a l.length c), (.int .i64 ((m : Nat) : Int)), undef, undef, (.slice none 0 0), (.slice a30 (pairsN l i).length cap31), (.int .i64 ((i : Nat) : Int)), (.pointer (some ⟨n57, 0, none⟩)), (.int .i64 ((k : Nat) : Int)), (u7 9), (.int .i64 ((i : Nat) : Int)), (.slice a l.length c), (.int .i64 ((l.length : Nat) : Int)), (.bool true), (.bool true), (.int .i64 ((i : Nat) : Int)), (.int .i64 ((m : Nat) : Int)), (.bool true), (.bool true), (u7 19), (u7 20), (.slice a l.length c), (.int .i64 ((i : Nat) : Int)), (.pointer (some ⟨b19, o20 + i * 2, none⟩)), (.pointer (some ⟨b19, o20 + i * 2, none⟩)), (.slice xa23 it.1.length xc24), v35, (.slice a l.length c), (.int .i64 ((i : Nat) : Int)), (.pointer (some ⟨b19, o20 + i * 2, none⟩)), (.pointer (some ⟨b19, o20 + i * 2 + 1, none⟩)), (.slice xa27 it.2.length xc28), v36, (.agg #[(.slice xa68 (keyL it.1).length xc69), (.slice xa71 (it.2.take 32).length xc72)]), (u78 34), (u78 35), (u78 36), (u78 37), (u78 38), (u78 39), (u78 40), (u78 41), (u78 42), (u78 43), (u78 44), (u78 45), (u78 46), (u78 47), (u78 48), (u78 49), (u78 50), (u78 51), (u7 52), (u7 53), (u7 54), (u7 55), (u7 56), (u7 57), (u7 58), (u7 59), (u7 60), (u7 61), (u7 62), (u7 63), (u7 64), (u7 65), (u7 66), (u7 67), (u7 68), (u7 69), (u7 70), (u7 71), (u7 72), (u7 73), (u7 74), (u7 75), (u7 76), (u7 77), (u7 78), (u7 79), (u7 80), (u7 81), (u7 82), (u7 83), undef], []⟩ ∧ St w F w79 F65 [⟨n57, [(.slice xa68 (keyL it.1).length xc69), (.slice xa71 (it.2.take 32).length xc72)], 38⟩] [ownP 2 PrC PrC.mono 38 w.heap.size (.slice a30 (pairsN l i).length cap31) (pairsN l i)] ∧ (k ≤ posT (pairsN l i) (keyL it.1))) _ ⟨0, (slotF [(.slice a l.length c), (.int .i64 ((m : Nat) : Int)), undef, undef, (.slice none 0 0), (.slice a30 (pairsN l i).length cap31), (.int .i64 ((i : Nat) : Int)), (.pointer (some ⟨n57, 0, none⟩)), (.int .i64 0), (u7 9), (.int .i64 ((i : Nat) : Int)), (.slice a l.length c), (.int .i64 ((l.length : Nat) : Int)), (.bool true), (.bool true), (.int .i64 ((i : Nat) : Int)), (.int .i64 ((m : Nat) : Int)), (.bool true), (.bool true), (u7 19), (u7 20), (.slice a l.length c), (.int .i64 ((i : Nat) : Int)), (.pointer (some ⟨b19, o20 + i * 2, none⟩)), (.pointer (some ⟨b19, o20 + i * 2, none⟩)), (.slice xa23 it.1.length xc24), v35, (.slice a l.length c), (.int .i64 ((i : Nat) : Int)), (.pointer (some ⟨b19, o20 + i * 2, none⟩)), (.pointer (some ⟨b19, o20 + i * 2 + 1, none⟩)), (.slice xa27 it.2.length xc28), v36, (.agg #[(.slice xa68 (keyL it.1).length xc69), (.slice xa71 (it.2.take 32).length xc72)]), (u7 34), (u7 35), (u7 36), (u7 37), (u7 38), (u7 39), (u7 40), (u7 41), (u7 42), (u7 43), (u7 44), (u7 45), (u7 46), (u7 47), (u7 48), (u7 49), (u7 50), (u7 51), (u7 52), (u7 53), (u7 54), (u7 55), (u7 56), (u7 57), (u7 58), (u7 59), (u7 60), (u7 61), (u7 62), (u7 63), (u7 64), (u7 65), (u7 66), (u7 67), (u7 68), (u7 69), (u7 70), (u7 71), (u7 72), (u7 73), (u7 74), (u7 75), (u7 76), (u7 77), (u7 78), (u7 79), (u7 80), (u7 81), (u7 82), (u7 83), undef]), rfl, rfl, S75, (by omega)⟩ ?_
   rintro m80 a81 w82 ⟨k, u78, rfl, rfl, S83, hk⟩ K85 hK85
   refine wp_seq_k (fun K86 hK86 => ?_)
   refine wp_seq_k (fun K87 hK87 => ?_)
   have hpl : posT (pairsN l i) (keyL it.1) ≤ (pairsN l i).length := posBy_le _ _ _
   by_cases hkl : k < (pairsN l i).length
   ·obtain ⟨p, hp⟩ : ∃ p, (pairsN l i)[k]? = some p := ⟨(pairsN l i)[k], List.getElem?_eq_getElem hkl⟩
    obtain ⟨g88, ha89, xa91, xc92, xa95, xc96, c90, c94, r93, r97⟩ := pr_at (S83.own (i := 0) rfl) hp
    by_cases hlt : Lt p.1 (keyL it.1)
    ·refine region_gw F65 14 [] (by kernel_rfl) (by kernel_rfl) ?_
     simp only [List.take_succ_cons, List.take_zero]
     refine gw_pure rfl rfl (.int .i64 ((k : Nat) : Int)) (fun w98 hCw98 => pureAt_of (ex_move _)) ?_
     simp only [pS, pN, pA, pC, pZ]
     refine gw_pure rfl rfl (.slice a30 (pairsN l i).length cap31) (fun w98 hCw98 => pureAt_of (ex_move _)) ?_
     simp only [pS, pN, pA, pC, pZ]
     refine gw_pure rfl rfl (.int .i64 (((pairsN l i).length : Nat) : Int)) (fun w98 hCw98 => pureAt_of (ex_len Tryd.underlying40 rfl)) ?_
     simp only [pS, pN, pA, pC, pZ]
     refine gw_pure rfl rfl (.bool true) (fun w98 hCw98 => pureAt_of (ex_lss (m := ((k : Nat) : Int)) (n := (((pairsN l i).length : Nat) : Int)) (b := true) rfl rfl (decide_eq_true (by omega)))) ?_
     simp only [pS, pN, pA, pC, pZ]
     refine gw_pure rfl rfl (.bool true) (fun w98 hCw98 => pureAt_of (ex_move _)) ?_
     simp only [pS, pN, pA, pC, pZ]
     refine gw_pure rfl rfl (.slice a30 (pairsN l i).length cap31) (fun w98 hCw98 => pureAt_of (ex_move _)) ?_
     simp only [pS, pN, pA, pC, pZ]
     refine gw_pure rfl rfl (.int .i64 ((k : Nat) : Int)) (fun w98 hCw98 => pureAt_of (ex_move _)) ?_
     simp only [pS, pN, pA, pC, pZ]
     refine gw_pure rfl rfl (.pointer (some ⟨g88, 0 + k * 2, none⟩)) (fun w98 hCw98 => pureAt_of (ex_at (i := k) (sz := 2) Tryd.underlying40 (sizeof_38 _) rfl ha89 rfl (by omega) rfl)) ?_
     simp only [pS, pN, pA, pC, pZ]
     refine gw_pure rfl rfl (.pointer (some ⟨g88, 0 + k * 2, none⟩)) (fun w98 hCw98 => pureAt_of (ex_field (q := ⟨g88, 0 + k * 2, none⟩) rfl (fa_38_0 _ _))) ?_
     simp only [pS, pN, pA, pC, pZ]
     refine gw_pure rfl rfl (.slice xa91 p.1.length xc92) (fun w98 hCw98 => pureAt_of (ex_load rfl (load1 (nagg_22 _) (cell_kept hCw98 c90)))) ?_
     simp only [pS, pN, pA, pC, pZ]
     refine gw_pure rfl rfl (.string ⟨p.1.toArray⟩) (fun w98 hCw98 => pureAt_of (ex_convert (v := (.slice xa91 p.1.length xc92)) rfl (run_string Tryd.underlying22 Tryd.underlying5 Tryd.underlying9 ((St.tells S83 hCw98)).sat r93))) ?_
     simp only [pS, pN, pA, pC, pZ]
     refine gw_pure rfl rfl (.pointer (some ⟨n57, 0, none⟩)) (fun w98 hCw98 => pureAt_of (ex_field (q := ⟨n57, 0, none⟩) rfl (fa_38_0 _ _))) ?_
     simp only [pS, pN, pA, pC, pZ]
     refine gw_pure rfl rfl (.slice xa68 (keyL it.1).length xc69) (fun w98 hCw98 => pureAt_of (ex_load rfl (load1 (nagg_22 _) (St.cell (St.tells S83 hCw98) (i := 0) rfl rfl)))) ?_
     simp only [pS, pN, pA, pC, pZ]
     refine gw_pure rfl rfl (.string ⟨(keyL it.1).toArray⟩) (fun w98 hCw98 => pureAt_of (ex_convert (v := (.slice xa68 (keyL it.1).length xc69)) rfl (run_string Tryd.underlying22 Tryd.underlying5 Tryd.underlying9 ((St.tells S83 hCw98)).sat r70))) ?_
     simp only [pS, pN, pA, pC, pZ]
     refine gw_nil ?_
     intro w99 hC101 hF102
     clear hF102
     have S100 := St.tells S83 hC101
     simp only [List.drop_succ_cons, List.drop_zero]
     refine do_ rfl (.bool true) (ex_strop (op := .lss) (l := p.1) (m := (keyL it.1)) (b := true) (by simp) rfl rfl (hlt)) ?_
     simp only [pS, pN, pA, pC, pZ]
     refine do_ rfl (.bool true) (ex_pick (b := true) rfl) ?_
     simp only [pS, pN, pA, pC, pZ]
     refine wl_nil (hK87 _ _ ?_)
     refine wp_cond_true rfl ?_
     refine wp_skip ?_
     refine hK86 _ _ ?_
     refine wp_block ?_
     refine region_wl ?_
     refine do_ rfl (.int .i64 ((k : Nat) : Int)) (ex_move _) ?_
     simp only [pS, pN, pA, pC, pZ]
     refine do_ rfl (.int .i64 (((k + 1) : Nat) : Int)) (ex_add (m := ((k : Nat) : Int)) (n := (1 : Int)) (r := (((k + 1) : Nat) : Int)) rfl rfl (by omega) (by omega) (by omega)) ?_
     simp only [pS, pN, pA, pC, pZ]
     refine do_ rfl (.int .i64 (((k + 1) : Nat) : Int)) (ex_assign _) ?_
     simp only [pS, pN, pA, pC, pZ]
     refine wl_nil ?_
     exact hK85 _ _ _ (by omega) ⟨(k + 1), (slotF [(.slice a l.length c), (.int .i64 ((m : Nat) : Int)), undef, undef, (.slice none 0 0), (.slice a30 (pairsN l i).length cap31), (.int .i64 ((i : Nat) : Int)), (.pointer (some ⟨n57, 0, none⟩)), (.int .i64 (((k + 1) : Nat) : Int)), (u7 9), (.int .i64 ((i : Nat) : Int)), (.slice a l.length c), (.int .i64 ((l.length : Nat) : Int)), (.bool true), (.bool true), (.int .i64 ((i : Nat) : Int)), (.int .i64 ((m : Nat) : Int)), (.bool true), (.bool true), (u7 19), (u7 20), (.slice a l.length c), (.int .i64 ((i : Nat) : Int)), (.pointer (some ⟨b19, o20 + i * 2, none⟩)), (.pointer (some ⟨b19, o20 + i * 2, none⟩)), (.slice xa23 it.1.length xc24), v35, (.slice a l.length c), (.int .i64 ((i : Nat) : Int)), (.pointer (some ⟨b19, o20 + i * 2, none⟩)), (.pointer (some ⟨b19, o20 + i * 2 + 1, none⟩)), (.slice xa27 it.2.length xc28), v36, (.agg #[(.slice xa68 (keyL it.1).length xc69), (.slice xa71 (it.2.take 32).length xc72)]), (.int .i64 ((k : Nat) : Int)), (.slice a30 (pairsN l i).length cap31), (.int .i64 (((pairsN l i).length : Nat) : Int)), (.bool true), (.bool true), (.slice a30 (pairsN l i).length cap31), (.int .i64 ((k : Nat) : Int)), (.pointer (some ⟨g88, 0 + k * 2, none⟩)), (.pointer (some ⟨g88, 0 + k * 2, none⟩)), (.slice xa91 p.1.length xc92), (.string ⟨p.1.toArray⟩), (.pointer (some ⟨n57, 0, none⟩)), (.slice xa68 (keyL it.1).length xc69), (.string ⟨(keyL it.1).toArray⟩), (.bool true), (.bool true), (.int .i64 ((k : Nat) : Int)), (.int .i64 (((k + 1) : Nat) : Int)), (u7 52), (u7 53), (u7 54), (u7 55), (u7 56), (u7 57), (u7 58), (u7 59), (u7 60), (u7 61), (u7 62), (u7 63), (u7 64), (u7 65), (u7 66), (u7 67), (u7 68), (u7 69), (u7 70), (u7 71), (u7 72), (u7 73), (u7 74), (u7 75), (u7 76), (u7 77), (u7 78), (u7 79), (u7 80), (u7 81), (u7 82), (u7 83), undef]), rfl, rfl, S100, (by have := pos_gt hor hp (cmpL_lt.2 hlt); omega)⟩
    ·refine region_gw F65 14 [] (by kernel_rfl) (by kernel_rfl) ?_
     simp only [List.take_succ_cons, List.take_zero]
     refine gw_pure rfl rfl (.int .i64 ((k : Nat) : Int)) (fun w103 hCw103 => pureAt_of (ex_move _)) ?_
     simp only [pS, pN, pA, pC, pZ]
     refine gw_pure rfl rfl (.slice a30 (pairsN l i).length cap31) (fun w103 hCw103 => pureAt_of (ex_move _)) ?_
     simp only [pS, pN, pA, pC, pZ]
     refine gw_pure rfl rfl (.int .i64 (((pairsN l i).length : Nat) : Int)) (fun w103 hCw103 => pureAt_of (ex_len Tryd.underlying40 rfl)) ?_
     simp only [pS, pN, pA, pC, pZ]
     refine gw_pure rfl rfl (.bool true) (fun w103 hCw103 => pureAt_of (ex_lss (m := ((k : Nat) : Int)) (n := (((pairsN l i).length : Nat) : Int)) (b := true) rfl rfl (decide_eq_true (by omega)))) ?_
     simp only [pS, pN, pA, pC, pZ]
     refine gw_pure rfl rfl (.bool true) (fun w103 hCw103 => pureAt_of (ex_move _)) ?_
     simp only [pS, pN, pA, pC, pZ]
     refine gw_pure rfl rfl (.slice a30 (pairsN l i).length cap31) (fun w103 hCw103 => pureAt_of (ex_move _)) ?_
     simp only [pS, pN, pA, pC, pZ]
     refine gw_pure rfl rfl (.int .i64 ((k : Nat) : Int)) (fun w103 hCw103 => pureAt_of (ex_move _)) ?_
     simp only [pS, pN, pA, pC, pZ]
     refine gw_pure rfl rfl (.pointer (some ⟨g88, 0 + k * 2, none⟩)) (fun w103 hCw103 => pureAt_of (ex_at (i := k) (sz := 2) Tryd.underlying40 (sizeof_38 _) rfl ha89 rfl (by omega) rfl)) ?_
     simp only [pS, pN, pA, pC, pZ]
     refine gw_pure rfl rfl (.pointer (some ⟨g88, 0 + k * 2, none⟩)) (fun w103 hCw103 => pureAt_of (ex_field (q := ⟨g88, 0 + k * 2, none⟩) rfl (fa_38_0 _ _))) ?_
     simp only [pS, pN, pA, pC, pZ]
     refine gw_pure rfl rfl (.slice xa91 p.1.length xc92) (fun w103 hCw103 => pureAt_of (ex_load rfl (load1 (nagg_22 _) (cell_kept hCw103 c90)))) ?_
     simp only [pS, pN, pA, pC, pZ]
     refine gw_pure rfl rfl (.string ⟨p.1.toArray⟩) (fun w103 hCw103 => pureAt_of (ex_convert (v := (.slice xa91 p.1.length xc92)) rfl (run_string Tryd.underlying22 Tryd.underlying5 Tryd.underlying9 ((St.tells S83 hCw103)).sat r93))) ?_
     simp only [pS, pN, pA, pC, pZ]
     refine gw_pure rfl rfl (.pointer (some ⟨n57, 0, none⟩)) (fun w103 hCw103 => pureAt_of (ex_field (q := ⟨n57, 0, none⟩) rfl (fa_38_0 _ _))) ?_
     simp only [pS, pN, pA, pC, pZ]
     refine gw_pure rfl rfl (.slice xa68 (keyL it.1).length xc69) (fun w103 hCw103 => pureAt_of (ex_load rfl (load1 (nagg_22 _) (St.cell (St.tells S83 hCw103) (i := 0) rfl rfl)))) ?_
     simp only [pS, pN, pA, pC, pZ]
     refine gw_pure rfl rfl (.string ⟨(keyL it.1).toArray⟩) (fun w103 hCw103 => pureAt_of (ex_convert (v := (.slice xa68 (keyL it.1).length xc69)) rfl (run_string Tryd.underlying22 Tryd.underlying5 Tryd.underlying9 ((St.tells S83 hCw103)).sat r70))) ?_
     simp only [pS, pN, pA, pC, pZ]
     refine gw_nil ?_
     intro w104 hC106 hF107
     clear hF107
     have S105 := St.tells S83 hC106
     simp only [List.drop_succ_cons, List.drop_zero]
     refine do_ rfl (.bool false) (ex_strop (op := .lss) (l := p.1) (m := (keyL it.1)) (b := false) (by simp) rfl rfl (by show Op.bytesLess _ _ = false; simpa using hlt)) ?_
     simp only [pS, pN, pA, pC, pZ]
     refine do_ rfl (.bool false) (ex_pick (b := true) rfl) ?_
     simp only [pS, pN, pA, pC, pZ]
     refine wl_nil (hK87 _ _ ?_)
     refine wp_cond_false rfl ?_
     refine wp_exit ?_
     refine hK77 _ _ ?_
     refine wp_seq_k (fun K108 hK108 => ?_)
     refine wp_seq_k (fun K109 hK109 => ?_)
     have hpos : posT (pairsN l i) (keyL it.1) = k := by first | exact Nat.le_antisymm (pos_le hp (fun h => hlt (cmpL_lt.1 h))) hk | omega
     by_cases hkl2 : k < (pairsN l i).length
     ·obtain ⟨p2, hp2⟩ : ∃ p, (pairsN l i)[k]? = some p := ⟨(pairsN l i)[k], List.getElem?_eq_getElem hkl2⟩
      obtain ⟨g110, ha111, xa113, xc114, xa117, xc118, c112, c116, r115, r119⟩ := pr_at (S105.own (i := 0) rfl) hp2
      by_cases heq : p2.1 = (keyL it.1)
      ·have hhas := has_yes hor (by rw [hpos]; exact hp2) (cmpL_eq.2 heq)
       refine region_gw F65 12 [] (by kernel_rfl) (by kernel_rfl) ?_
       simp only [List.take_succ_cons, List.take_zero]
       refine gw_pure rfl rfl (.int .i64 ((k : Nat) : Int)) (fun w120 hCw120 => pureAt_of (ex_move _)) ?_
       simp only [pS, pN, pA, pC, pZ]
       refine gw_pure rfl rfl (.slice a30 (pairsN l i).length cap31) (fun w120 hCw120 => pureAt_of (ex_move _)) ?_
       simp only [pS, pN, pA, pC, pZ]
       refine gw_pure rfl rfl (.int .i64 (((pairsN l i).length : Nat) : Int)) (fun w120 hCw120 => pureAt_of (ex_len Tryd.underlying40 rfl)) ?_
       simp only [pS, pN, pA, pC, pZ]
       refine gw_pure rfl rfl (.bool true) (fun w120 hCw120 => pureAt_of (ex_lss (m := ((k : Nat) : Int)) (n := (((pairsN l i).length : Nat) : Int)) (b := true) rfl rfl (decide_eq_true (by omega)))) ?_
       simp only [pS, pN, pA, pC, pZ]
       refine gw_pure rfl rfl (.bool true) (fun w120 hCw120 => pureAt_of (ex_move _)) ?_
       simp only [pS, pN, pA, pC, pZ]
       refine gw_pure rfl rfl (.slice a30 (pairsN l i).length cap31) (fun w120 hCw120 => pureAt_of (ex_move _)) ?_
       simp only [pS, pN, pA, pC, pZ]
       refine gw_pure rfl rfl (.int .i64 ((k : Nat) : Int)) (fun w120 hCw120 => pureAt_of (ex_move _)) ?_
       simp only [pS, pN, pA, pC, pZ]
       refine gw_pure rfl rfl (.pointer (some ⟨g110, 0 + k * 2, none⟩)) (fun w120 hCw120 => pureAt_of (ex_at (i := k) (sz := 2) Tryd.underlying40 (sizeof_38 _) rfl ha111 rfl (by omega) rfl)) ?_
       simp only [pS, pN, pA, pC, pZ]
       refine gw_pure rfl rfl (.pointer (some ⟨g110, 0 + k * 2, none⟩)) (fun w120 hCw120 => pureAt_of (ex_field (q := ⟨g110, 0 + k * 2, none⟩) rfl (fa_38_0 _ _))) ?_
       simp only [pS, pN, pA, pC, pZ]
       refine gw_pure rfl rfl (.slice xa113 p2.1.length xc114) (fun w120 hCw120 => pureAt_of (ex_load rfl (load1 (nagg_22 _) (cell_kept hCw120 c112)))) ?_
       simp only [pS, pN, pA, pC, pZ]
       refine gw_pure rfl rfl (.pointer (some ⟨n57, 0, none⟩)) (fun w120 hCw120 => pureAt_of (ex_field (q := ⟨n57, 0, none⟩) rfl (fa_38_0 _ _))) ?_
       simp only [pS, pN, pA, pC, pZ]
       refine gw_pure rfl rfl (.slice xa68 (keyL it.1).length xc69) (fun w120 hCw120 => pureAt_of (ex_load rfl (load1 (nagg_22 _) (St.cell (St.tells S105 hCw120) (i := 0) rfl rfl)))) ?_
       simp only [pS, pN, pA, pC, pZ]
       refine gw_nil ?_
       intro w121 hC123 hF124
       clear hF124
       have S122 := St.tells S105 hC123
       simp only [List.drop_succ_cons, List.drop_zero]
       refine stTells (v := (.bool true)) S122 rfl (ex_fn (vs := #[(.slice xa113 p2.1.length xc114), (.slice xa68 (keyL it.1).length xc69)]) (map2 rfl rfl) rfl (ent_16 _ _)) (tells_bool (tells_same (same_spec _ _ _ _ p2.1 (keyL it.1) (S122).sat r115 r70)) (beq_iff_eq.2 heq)) (fun w125 S126 => ?_)
       simp only [pS, pN, pA, pC, pZ]
       refine do_ rfl (.bool true) (ex_pick (b := true) rfl) ?_
       simp only [pS, pN, pA, pC, pZ]
       refine wl_nil (hK109 _ _ ?_)
       refine wp_cond_true rfl ?_
       refine wp_seq_k (fun K127 hK127 => ?_)
       obtain ⟨g128, rfl⟩ := Own.addr0 (S126.own (i := 0) rfl) (by omega)
       refine region_wl ?_
       refine do_ rfl (.slice (some ⟨g128, 0, none⟩) (pairsN l i).length cap31) (ex_move _) ?_
       simp only [pS, pN, pA, pC, pZ]
       refine do_ rfl (.int .i64 ((k : Nat) : Int)) (ex_move _) ?_
       simp only [pS, pN, pA, pC, pZ]
       refine do_ rfl (.agg #[(.slice xa68 (keyL it.1).length xc69), (.slice xa71 (it.2.take 32).length xc72)]) (ex_load rfl (loadN (cs := [(.slice xa68 (keyL it.1).length xc69), (.slice xa71 (it.2.take 32).length xc72)]) Tryd.underlying38 rfl (size_38) (St.range S126 (i := 0) rfl 0 [(.slice xa68 (keyL it.1).length xc69), (.slice xa71 (it.2.take 32).length xc72)] (sub_range 0 rfl)))) ?_
       simp only [pS, pN, pA, pC, pZ]
       refine do_ rfl (.pointer (some ⟨g128, 0 + k * 2, none⟩)) (ex_at (i := k) (sz := 2) Tryd.underlying40 (sizeof_38 _) rfl rfl rfl (by omega) rfl) ?_
       simp only [pS, pN, pA, pC, pZ]
       refine stSetRow (r := 0) (i := k) (p := (keyL it.1, it.2.take 32)) (u := (.agg #[(.slice xa68 (keyL it.1).length xc69), (.slice xa71 (it.2.take 32).length xc72)])) S126 rfl rfl (by omega) rfl rfl (by omega) (size_38) (allc2 rfl rfl) rfl ⟨_, _, rfl, r70, r73⟩ (Nat.le_refl _) (fun w129 S130 => ?_)
       simp only [pS, pN, pA, pC, pZ]
       have S130 : St w F w129 F65 [⟨n57, [(.slice xa68 (keyL it.1).length xc69), (.slice xa71 (it.2.take 32).length xc72)], 38⟩] [ownP 2 PrC PrC.mono 38 w.heap.size (.slice (some ⟨g128, 0, none⟩) (pairsN l i).length cap31) ((pairsN l i).set k (keyL it.1, it.2.take 32))] := S130
       refine wl_nil (hK127 _ _ ?_)
       refine wp_exit ?_
       refine hK17 _ _ ?_
       rw [putT_have hhas, hpos] at hnew
       refine region_wl ?_
       refine do_ rfl (.int .i64 ((i : Nat) : Int)) (ex_move _) ?_
       simp only [pS, pN, pA, pC, pZ]
       refine do_ rfl (.int .i64 (((i + 1) : Nat) : Int)) (ex_add (m := ((i : Nat) : Int)) (n := (1 : Int)) (r := (((i + 1) : Nat) : Int)) rfl rfl (by omega) (by omega) (by omega)) ?_
       simp only [pS, pN, pA, pC, pZ]
       refine do_ rfl (.int .i64 (((i + 1) : Nat) : Int)) (ex_assign _) ?_
       simp only [pS, pN, pA, pC, pZ]
       refine wl_nil ?_
       have S130 := St.drop S130 (L' := []) (.cons _ (List.Sublist.refl _))
       rw [← hnew] at S130
       exact hK14 _ _ _ (by omega) ⟨(i + 1), (.slice (some ⟨g128, 0, none⟩) (pairsN l i).length cap31), F65, (slotF [(.slice a l.length c), (.int .i64 ((m : Nat) : Int)), undef, undef, (.slice none 0 0), (.slice (some ⟨g128, 0, none⟩) (pairsN l i).length cap31), (.int .i64 (((i + 1) : Nat) : Int)), (.pointer (some ⟨n57, 0, none⟩)), (.int .i64 ((k : Nat) : Int)), (u7 9), (.int .i64 ((i : Nat) : Int)), (.slice a l.length c), (.int .i64 ((l.length : Nat) : Int)), (.bool true), (.bool true), (.int .i64 ((i : Nat) : Int)), (.int .i64 ((m : Nat) : Int)), (.bool true), (.bool true), (.int .i64 ((i : Nat) : Int)), (.int .i64 (((i + 1) : Nat) : Int)), (.slice a l.length c), (.int .i64 ((i : Nat) : Int)), (.pointer (some ⟨b19, o20 + i * 2, none⟩)), (.pointer (some ⟨b19, o20 + i * 2, none⟩)), (.slice xa23 it.1.length xc24), v35, (.slice a l.length c), (.int .i64 ((i : Nat) : Int)), (.pointer (some ⟨b19, o20 + i * 2, none⟩)), (.pointer (some ⟨b19, o20 + i * 2 + 1, none⟩)), (.slice xa27 it.2.length xc28), v36, (.agg #[(.slice xa68 (keyL it.1).length xc69), (.slice xa71 (it.2.take 32).length xc72)]), (.int .i64 ((k : Nat) : Int)), (.slice (some ⟨g128, 0, none⟩) (pairsN l i).length cap31), (.int .i64 (((pairsN l i).length : Nat) : Int)), (.bool true), (.bool true), (.slice (some ⟨g128, 0, none⟩) (pairsN l i).length cap31), (.int .i64 ((k : Nat) : Int)), (.pointer (some ⟨g88, 0 + k * 2, none⟩)), (.pointer (some ⟨g88, 0 + k * 2, none⟩)), (.slice xa91 p.1.length xc92), (.string ⟨p.1.toArray⟩), (.pointer (some ⟨n57, 0, none⟩)), (.slice xa68 (keyL it.1).length xc69), (.string ⟨(keyL it.1).toArray⟩), (.bool false), (.bool false), (u78 50), (u78 51), (.int .i64 ((k : Nat) : Int)), (.slice (some ⟨g128, 0, none⟩) (pairsN l i).length cap31), (.int .i64 (((pairsN l i).length : Nat) : Int)), (.bool true), (.bool true), (.slice (some ⟨g128, 0, none⟩) (pairsN l i).length cap31), (.int .i64 ((k : Nat) : Int)), (.pointer (some ⟨g110, 0 + k * 2, none⟩)), (.pointer (some ⟨g110, 0 + k * 2, none⟩)), (.slice xa113 p2.1.length xc114), (.pointer (some ⟨n57, 0, none⟩)), (.slice xa68 (keyL it.1).length xc69), (.bool true), (.bool true), (.slice (some ⟨g128, 0, none⟩) (pairsN l i).length cap31), (.int .i64 ((k : Nat) : Int)), (.agg #[(.slice xa68 (keyL it.1).length xc69), (.slice xa71 (it.2.take 32).length xc72)]), (.pointer (some ⟨g128, 0 + k * 2, none⟩)), (u7 70), (u7 71), (u7 72), (u7 73), (u7 74), (u7 75), (u7 76), (u7 77), (u7 78), (u7 79), (u7 80), (u7 81), (u7 82), (u7 83), undef]), rfl, rfl, S130, (le13.trans le66), (by omega), (by omega)⟩
      ·have hhas := has_no hor (by rw [hpos]; exact hp2) (fun h => heq (cmpL_eq.1 h))
       refine region_gw F65 12 [] (by kernel_rfl) (by kernel_rfl) ?_
       simp only [List.take_succ_cons, List.take_zero]
       refine gw_pure rfl rfl (.int .i64 ((k : Nat) : Int)) (fun w131 hCw131 => pureAt_of (ex_move _)) ?_
       simp only [pS, pN, pA, pC, pZ]
       refine gw_pure rfl rfl (.slice a30 (pairsN l i).length cap31) (fun w131 hCw131 => pureAt_of (ex_move _)) ?_
       simp only [pS, pN, pA, pC, pZ]
       refine gw_pure rfl rfl (.int .i64 (((pairsN l i).length : Nat) : Int)) (fun w131 hCw131 => pureAt_of (ex_len Tryd.underlying40 rfl)) ?_
       simp only [pS, pN, pA, pC, pZ]
       refine gw_pure rfl rfl (.bool true) (fun w131 hCw131 => pureAt_of (ex_lss (m := ((k : Nat) : Int)) (n := (((pairsN l i).length : Nat) : Int)) (b := true) rfl rfl (decide_eq_true (by omega)))) ?_
       simp only [pS, pN, pA, pC, pZ]
       refine gw_pure rfl rfl (.bool true) (fun w131 hCw131 => pureAt_of (ex_move _)) ?_
       simp only [pS, pN, pA, pC, pZ]
       refine gw_pure rfl rfl (.slice a30 (pairsN l i).length cap31) (fun w131 hCw131 => pureAt_of (ex_move _)) ?_
       simp only [pS, pN, pA, pC, pZ]
       refine gw_pure rfl rfl (.int .i64 ((k : Nat) : Int)) (fun w131 hCw131 => pureAt_of (ex_move _)) ?_
       simp only [pS, pN, pA, pC, pZ]
       refine gw_pure rfl rfl (.pointer (some ⟨g110, 0 + k * 2, none⟩)) (fun w131 hCw131 => pureAt_of (ex_at (i := k) (sz := 2) Tryd.underlying40 (sizeof_38 _) rfl ha111 rfl (by omega) rfl)) ?_
       simp only [pS, pN, pA, pC, pZ]
       refine gw_pure rfl rfl (.pointer (some ⟨g110, 0 + k * 2, none⟩)) (fun w131 hCw131 => pureAt_of (ex_field (q := ⟨g110, 0 + k * 2, none⟩) rfl (fa_38_0 _ _))) ?_
       simp only [pS, pN, pA, pC, pZ]
       refine gw_pure rfl rfl (.slice xa113 p2.1.length xc114) (fun w131 hCw131 => pureAt_of (ex_load rfl (load1 (nagg_22 _) (cell_kept hCw131 c112)))) ?_
       simp only [pS, pN, pA, pC, pZ]
       refine gw_pure rfl rfl (.pointer (some ⟨n57, 0, none⟩)) (fun w131 hCw131 => pureAt_of (ex_field (q := ⟨n57, 0, none⟩) rfl (fa_38_0 _ _))) ?_
       simp only [pS, pN, pA, pC, pZ]
       refine gw_pure rfl rfl (.slice xa68 (keyL it.1).length xc69) (fun w131 hCw131 => pureAt_of (ex_load rfl (load1 (nagg_22 _) (St.cell (St.tells S105 hCw131) (i := 0) rfl rfl)))) ?_
       simp only [pS, pN, pA, pC, pZ]
       refine gw_nil ?_
       intro w132 hC134 hF135
       clear hF135
       have S133 := St.tells S105 hC134
       simp only [List.drop_succ_cons, List.drop_zero]
       refine stTells (v := (.bool false)) S133 rfl (ex_fn (vs := #[(.slice xa113 p2.1.length xc114), (.slice xa68 (keyL it.1).length xc69)]) (map2 rfl rfl) rfl (ent_16 _ _)) (tells_bool (tells_same (same_spec _ _ _ _ p2.1 (keyL it.1) (S133).sat r115 r70)) (beq_eq_false_iff_ne.2 heq)) (fun w136 S137 => ?_)
       simp only [pS, pN, pA, pC, pZ]
       refine do_ rfl (.bool false) (ex_pick (b := true) rfl) ?_
       simp only [pS, pN, pA, pC, pZ]
       refine wl_nil (hK109 _ _ ?_)
       refine wp_cond_false rfl ?_
       refine wp_skip ?_
       refine hK108 _ _ ?_
       refine wp_seq_k (fun K138 hK138 => region_wl ?_)
       refine do_ rfl (.slice none 0 0) (ex_assign _) ?_
       simp only [pS, pN, pA, pC, pZ]
       refine wl_nil (hK138 _ _ ?_)
       refine wp_seq_k (fun K139 hK139 => ?_)
       have S140 := St.addNil S137 2 PrC PrC.mono 38 w.heap.size
       refine region_wl ?_
       refine do_ rfl (.slice none 0 0) (ex_move _) ?_
       simp only [pS, pN, pA, pC, pZ]
       refine do_ rfl (.slice a30 (pairsN l i).length cap31) (ex_move _) ?_
       simp only [pS, pN, pA, pC, pZ]
       refine do_ rfl (.int .i64 ((k : Nat) : Int)) (ex_move _) ?_
       simp only [pS, pN, pA, pC, pZ]
       refine do_ rfl (.slice a30 k cap31) (ex_slice (l := 0) (h := k) (sz := 2) Tryd.underlying40 rfl (sizeof_38 _) (.inl ⟨rfl, rfl⟩) (.inr ⟨_, rfl, rfl⟩) (by omega) (by omega) (slice_zero)) ?_
       simp only [pS, pN, pA, pC, pZ]
       refine stAppendS (r := 0) (u := (.slice a30 k cap31)) S140 rfl i38 (.agg #[(.slice none 0 0), (.slice none 0 0)]) 48 Tryd.underlying40 hi38 hz38 hs38 hb38 rfl (by decide) rfl rfl rfl (((S140.own (i := 1) rfl).toW).takeN (m := k) (by omega)) (fun F cs p h => PrC.one F cs p h) (Nat.le_refl _) S140.gr.below.size (by unfold maxLen; simp only [List.length_append, List.length_take, List.length_drop, List.length_nil, List.length_cons]; omega) (by simp only [List.length_append, List.length_take, List.length_drop, List.length_nil, List.length_cons]; omega) ?_
       intro v141 w142 S143 hn144
       simp only [pS, pN, pA, pC, pZ]
       have S143 : St w F w142 F65 [⟨n57, [(.slice xa68 (keyL it.1).length xc69), (.slice xa71 (it.2.take 32).length xc72)], 38⟩] [ownP 2 PrC PrC.mono 38 w.heap.size v141 ([] ++ ((pairsN l i).take k)), ownP 2 PrC PrC.mono 38 w.heap.size (.slice a30 (pairsN l i).length cap31) (pairsN l i)] := S143
       refine do_ rfl v141 (ex_assign _) ?_
       simp only [pS, pN, pA, pC, pZ]
       refine wl_nil (hK139 _ _ ?_)
       refine wp_seq_k (fun K145 hK145 => region_wl ?_)
       refine do_ rfl v141 (ex_move _) ?_
       simp only [pS, pN, pA, pC, pZ]
       refine do_ rfl (.agg #[(.slice xa68 (keyL it.1).length xc69), (.slice xa71 (it.2.take 32).length xc72)]) (ex_load rfl (loadN (cs := [(.slice xa68 (keyL it.1).length xc69), (.slice xa71 (it.2.take 32).length xc72)]) Tryd.underlying38 rfl (size_38) (St.range S143 (i := 0) rfl 0 [(.slice xa68 (keyL it.1).length xc69), (.slice xa71 (it.2.take 32).length xc72)] (sub_range 0 rfl)))) ?_
       simp only [pS, pN, pA, pC, pZ]
       refine stNew S143 (v := fun n => .slice (some ⟨n, 0, none⟩) 1 1) rfl (ex_lit (ps := #[(0, (.agg #[(.slice xa68 (keyL it.1).length xc69), (.slice xa71 (it.2.take 32).length xc72)]))]) (cells := #[(.slice xa68 (keyL it.1).length xc69), (.slice xa71 (it.2.take 32).length xc72)]) (E := 38) (bmap1 rfl) (fun w => by kernel_rfl)) (fun n146 w147 S148 => ?_)
       simp only [pS, pN, pA, pC, pZ]
       have S148 : St w F w147 F65 [⟨n146, [(.slice xa68 (keyL it.1).length xc69), (.slice xa71 (it.2.take 32).length xc72)], 38⟩, ⟨n57, [(.slice xa68 (keyL it.1).length xc69), (.slice xa71 (it.2.take 32).length xc72)], 38⟩] [ownP 2 PrC PrC.mono 38 w.heap.size v141 ([] ++ ((pairsN l i).take k)), ownP 2 PrC PrC.mono 38 w.heap.size (.slice a30 (pairsN l i).length cap31) (pairsN l i)] := S148
       refine stPush (i := 0) (r := 0) (p := (keyL it.1, it.2.take 32)) (cs := [(.slice xa68 (keyL it.1).length xc69), (.slice xa71 (it.2.take 32).length xc72)]) S148 rfl i38 (.agg #[(.slice none 0 0), (.slice none 0 0)]) 48 Tryd.underlying40 hi38 hz38 hs38 hb38 rfl (by decide) rfl rfl rfl rfl rfl (PrC.oneCell (p := (keyL it.1, it.2.take 32)) ⟨_, _, rfl, r70, r73⟩) (⟨_, _, rfl, r70, r73⟩) (Nat.le_refl _) S148.gr.below.size (by unfold maxLen; simp only [List.length_append, List.length_take, List.length_nil]; omega) (by simp only [List.length_append, List.length_take, List.length_nil]; omega) ?_
       intro v149 w150 S151 hn152
       simp only [pS, pN, pA, pC, pZ]
       have S151 := St.drop S151 (L' := [⟨n57, [(.slice xa68 (keyL it.1).length xc69), (.slice xa71 (it.2.take 32).length xc72)], 38⟩]) (.cons _ (List.Sublist.refl _))
       have S151 : St w F w150 F65 [⟨n57, [(.slice xa68 (keyL it.1).length xc69), (.slice xa71 (it.2.take 32).length xc72)], 38⟩] [ownP 2 PrC PrC.mono 38 w.heap.size v149 (([] ++ ((pairsN l i).take k)) ++ [(keyL it.1, it.2.take 32)]), ownP 2 PrC PrC.mono 38 w.heap.size (.slice a30 (pairsN l i).length cap31) (pairsN l i)] := S151
       refine do_ rfl v149 (ex_assign _) ?_
       simp only [pS, pN, pA, pC, pZ]
       refine wl_nil (hK145 _ _ ?_)
       refine region_wl ?_
       refine do_ rfl v149 (ex_move _) ?_
       simp only [pS, pN, pA, pC, pZ]
       refine do_ rfl (.slice a30 (pairsN l i).length cap31) (ex_move _) ?_
       simp only [pS, pN, pA, pC, pZ]
       refine do_ rfl (.int .i64 ((k : Nat) : Int)) (ex_move _) ?_
       simp only [pS, pN, pA, pC, pZ]
       refine do_ rfl (.slice (if cap31 = k then a30 else a30.map (·.add (k * 2))) ((pairsN l i).length - k) (cap31 - k)) (ex_slice (l := k) (h := (pairsN l i).length) (sz := 2) Tryd.underlying40 rfl (sizeof_38 _) (.inr ⟨_, rfl, rfl⟩) (.inl ⟨rfl, rfl⟩) (by omega) (by omega) (rfl)) ?_
       simp only [pS, pN, pA, pC, pZ]
       refine stAppendS (r := 0) (u := (.slice (if cap31 = k then a30 else a30.map (·.add (k * 2))) ((pairsN l i).length - k) (cap31 - k))) S151 rfl i38 (.agg #[(.slice none 0 0), (.slice none 0 0)]) 48 Tryd.underlying40 hi38 hz38 hs38 hb38 rfl (by decide) rfl rfl rfl (((S151.own (i := 1) rfl).toW).dropN (m := k) (by omega)) (fun F cs p h => PrC.one F cs p h) (Nat.le_refl _) S151.gr.below.size (by unfold maxLen; simp only [List.length_append, List.length_take, List.length_drop, List.length_nil, List.length_cons]; omega) (by simp only [List.length_append, List.length_take, List.length_drop, List.length_nil, List.length_cons]; omega) ?_
       intro v153 w154 S155 hn156
       simp only [pS, pN, pA, pC, pZ]
       have S155 : St w F w154 F65 [⟨n57, [(.slice xa68 (keyL it.1).length xc69), (.slice xa71 (it.2.take 32).length xc72)], 38⟩] [ownP 2 PrC PrC.mono 38 w.heap.size v153 ((([] ++ ((pairsN l i).take k)) ++ [(keyL it.1, it.2.take 32)]) ++ ((pairsN l i).drop k)), ownP 2 PrC PrC.mono 38 w.heap.size (.slice a30 (pairsN l i).length cap31) (pairsN l i)] := S155
       refine do_ rfl v153 (ex_assign _) ?_
       simp only [pS, pN, pA, pC, pZ]
       refine wl_nil (hK17 _ _ ?_)
       have S157 := St.dropRow S155 (M' := [ownP 2 PrC PrC.mono 38 w.heap.size v153 ((([] ++ ((pairsN l i).take k)) ++ [(keyL it.1, it.2.take 32)]) ++ ((pairsN l i).drop k))]) (.cons_cons _ (.cons _ (List.Sublist.refl _)))
       rw [putT_new (by rw [hhas]; simp), hpos] at hnew
       have hl3 : (([] ++ (pairsN l i).take k) ++ [(keyL it.1, it.2.take 32)]) ++ (pairsN l i).drop k = (pairsN l i).take k ++ (keyL it.1, it.2.take 32) :: (pairsN l i).drop k := by simp
       rw [hl3] at S157
       refine region_wl ?_
       refine do_ rfl (.int .i64 ((i : Nat) : Int)) (ex_move _) ?_
       simp only [pS, pN, pA, pC, pZ]
       refine do_ rfl (.int .i64 (((i + 1) : Nat) : Int)) (ex_add (m := ((i : Nat) : Int)) (n := (1 : Int)) (r := (((i + 1) : Nat) : Int)) rfl rfl (by omega) (by omega) (by omega)) ?_
       simp only [pS, pN, pA, pC, pZ]
       refine do_ rfl (.int .i64 (((i + 1) : Nat) : Int)) (ex_assign _) ?_
       simp only [pS, pN, pA, pC, pZ]
       refine wl_nil ?_
       have S157 := St.drop S157 (L' := []) (.cons _ (List.Sublist.refl _))
       rw [← hnew] at S157
       exact hK14 _ _ _ (by omega) ⟨(i + 1), v153, F65, (slotF [(.slice a l.length c), (.int .i64 ((m : Nat) : Int)), undef, undef, (.slice none 0 0), v153, (.int .i64 (((i + 1) : Nat) : Int)), (.pointer (some ⟨n57, 0, none⟩)), (.int .i64 ((k : Nat) : Int)), v149, (.int .i64 ((i : Nat) : Int)), (.slice a l.length c), (.int .i64 ((l.length : Nat) : Int)), (.bool true), (.bool true), (.int .i64 ((i : Nat) : Int)), (.int .i64 ((m : Nat) : Int)), (.bool true), (.bool true), (.int .i64 ((i : Nat) : Int)), (.int .i64 (((i + 1) : Nat) : Int)), (.slice a l.length c), (.int .i64 ((i : Nat) : Int)), (.pointer (some ⟨b19, o20 + i * 2, none⟩)), (.pointer (some ⟨b19, o20 + i * 2, none⟩)), (.slice xa23 it.1.length xc24), v35, (.slice a l.length c), (.int .i64 ((i : Nat) : Int)), (.pointer (some ⟨b19, o20 + i * 2, none⟩)), (.pointer (some ⟨b19, o20 + i * 2 + 1, none⟩)), (.slice xa27 it.2.length xc28), v36, (.agg #[(.slice xa68 (keyL it.1).length xc69), (.slice xa71 (it.2.take 32).length xc72)]), (.int .i64 ((k : Nat) : Int)), (.slice a30 (pairsN l i).length cap31), (.int .i64 (((pairsN l i).length : Nat) : Int)), (.bool true), (.bool true), (.slice a30 (pairsN l i).length cap31), (.int .i64 ((k : Nat) : Int)), (.pointer (some ⟨g88, 0 + k * 2, none⟩)), (.pointer (some ⟨g88, 0 + k * 2, none⟩)), (.slice xa91 p.1.length xc92), (.string ⟨p.1.toArray⟩), (.pointer (some ⟨n57, 0, none⟩)), (.slice xa68 (keyL it.1).length xc69), (.string ⟨(keyL it.1).toArray⟩), (.bool false), (.bool false), (u78 50), (u78 51), (.int .i64 ((k : Nat) : Int)), (.slice a30 (pairsN l i).length cap31), (.int .i64 (((pairsN l i).length : Nat) : Int)), (.bool true), (.bool true), (.slice a30 (pairsN l i).length cap31), (.int .i64 ((k : Nat) : Int)), (.pointer (some ⟨g110, 0 + k * 2, none⟩)), (.pointer (some ⟨g110, 0 + k * 2, none⟩)), (.slice xa113 p2.1.length xc114), (.pointer (some ⟨n57, 0, none⟩)), (.slice xa68 (keyL it.1).length xc69), (.bool false), (.bool false), (u7 66), (u7 67), (u7 68), (u7 69), (.slice none 0 0), (.slice a30 (pairsN l i).length cap31), (.int .i64 ((k : Nat) : Int)), (.slice a30 k cap31), v141, v141, (.agg #[(.slice xa68 (keyL it.1).length xc69), (.slice xa71 (it.2.take 32).length xc72)]), (.slice (some ⟨n146, 0, none⟩) 1 1), v149, v149, (.slice a30 (pairsN l i).length cap31), (.int .i64 ((k : Nat) : Int)), (.slice (if cap31 = k then a30 else a30.map (·.add (k * 2))) ((pairsN l i).length - k) (cap31 - k)), v153, undef]), rfl, rfl, S157, (le13.trans le66), (by omega), (by omega)⟩
     ·have hhas : hasT (pairsN l i) (keyL it.1) = false := has_end hor (by omega)
      refine region_gw F65 12 [] (by kernel_rfl) (by kernel_rfl) ?_
      simp only [List.take_succ_cons, List.take_zero]
      refine gw_pure rfl rfl (.int .i64 ((k : Nat) : Int)) (fun w159 hCw159 => pureAt_of (ex_move _)) ?_
      simp only [pS, pN, pA, pC, pZ]
      refine gw_pure rfl rfl (.slice a30 (pairsN l i).length cap31) (fun w159 hCw159 => pureAt_of (ex_move _)) ?_
      simp only [pS, pN, pA, pC, pZ]
      refine gw_pure rfl rfl (.int .i64 (((pairsN l i).length : Nat) : Int)) (fun w159 hCw159 => pureAt_of (ex_len Tryd.underlying40 rfl)) ?_
      simp only [pS, pN, pA, pC, pZ]
      refine gw_pure rfl rfl (.bool false) (fun w159 hCw159 => pureAt_of (ex_lss (m := ((k : Nat) : Int)) (n := (((pairsN l i).length : Nat) : Int)) (b := false) rfl rfl (decide_eq_false (by omega)))) ?_
      simp only [pS, pN, pA, pC, pZ]
      refine gw_pure rfl rfl (.bool false) (fun w159 hCw159 => pureAt_of (ex_move _)) ?_
      simp only [pS, pN, pA, pC, pZ]
      refine gw_skip (wanted_no rfl rfl rfl (c := false) rfl (by decide)) ?_
      simp only [pS, pN, pA, pC, pZ]
      refine gw_skip (wanted_no rfl rfl rfl (c := false) rfl (by decide)) ?_
      simp only [pS, pN, pA, pC, pZ]
      refine gw_skip (wanted_no rfl rfl rfl (c := false) rfl (by decide)) ?_
      simp only [pS, pN, pA, pC, pZ]
      refine gw_skip (wanted_no rfl rfl rfl (c := false) rfl (by decide)) ?_
      simp only [pS, pN, pA, pC, pZ]
      refine gw_skip (wanted_no rfl rfl rfl (c := false) rfl (by decide)) ?_
      simp only [pS, pN, pA, pC, pZ]
      refine gw_skip (wanted_no rfl rfl rfl (c := false) rfl (by decide)) ?_
      simp only [pS, pN, pA, pC, pZ]
      refine gw_skip (wanted_no rfl rfl rfl (c := false) rfl (by decide)) ?_
      simp only [pS, pN, pA, pC, pZ]
      refine gw_nil ?_
      intro w160 hC162 hF163
      clear hF163
      have S161 := St.tells S105 hC162
      simp only [List.drop_succ_cons, List.drop_zero]
      refine doN (wanted_no rfl rfl rfl (c := false) rfl (by decide)) ?_
      simp only [pS, pN, pA, pC, pZ]
      refine do_ rfl (.bool false) (ex_pick (b := false) rfl) ?_
      simp only [pS, pN, pA, pC, pZ]
      refine wl_nil (hK109 _ _ ?_)
      refine wp_cond_false rfl ?_
      refine wp_skip ?_
      refine hK108 _ _ ?_
      refine wp_seq_k (fun K164 hK164 => region_wl ?_)
      refine do_ rfl (.slice none 0 0) (ex_assign _) ?_
      simp only [pS, pN, pA, pC, pZ]
      refine wl_nil (hK164 _ _ ?_)
      refine wp_seq_k (fun K165 hK165 => ?_)
      have S166 := St.addNil S161 2 PrC PrC.mono 38 w.heap.size
      refine region_wl ?_
      refine do_ rfl (.slice none 0 0) (ex_move _) ?_
      simp only [pS, pN, pA, pC, pZ]
      refine do_ rfl (.slice a30 (pairsN l i).length cap31) (ex_move _) ?_
      simp only [pS, pN, pA, pC, pZ]
      refine do_ rfl (.int .i64 ((k : Nat) : Int)) (ex_move _) ?_
      simp only [pS, pN, pA, pC, pZ]
      refine do_ rfl (.slice a30 k cap31) (ex_slice (l := 0) (h := k) (sz := 2) Tryd.underlying40 rfl (sizeof_38 _) (.inl ⟨rfl, rfl⟩) (.inr ⟨_, rfl, rfl⟩) (by omega) (by omega) (slice_zero)) ?_
      simp only [pS, pN, pA, pC, pZ]
      refine stAppendS (r := 0) (u := (.slice a30 k cap31)) S166 rfl i38 (.agg #[(.slice none 0 0), (.slice none 0 0)]) 48 Tryd.underlying40 hi38 hz38 hs38 hb38 rfl (by decide) rfl rfl rfl (((S166.own (i := 1) rfl).toW).takeN (m := k) (by omega)) (fun F cs p h => PrC.one F cs p h) (Nat.le_refl _) S166.gr.below.size (by unfold maxLen; simp only [List.length_append, List.length_take, List.length_drop, List.length_nil, List.length_cons]; omega) (by simp only [List.length_append, List.length_take, List.length_drop, List.length_nil, List.length_cons]; omega) ?_
      intro v167 w168 S169 hn170
      simp only [pS, pN, pA, pC, pZ]
      have S169 : St w F w168 F65 [⟨n57, [(.slice xa68 (keyL it.1).length xc69), (.slice xa71 (it.2.take 32).length xc72)], 38⟩] [ownP 2 PrC PrC.mono 38 w.heap.size v167 ([] ++ ((pairsN l i).take k)), ownP 2 PrC PrC.mono 38 w.heap.size (.slice a30 (pairsN l i).length cap31) (pairsN l i)] := S169
      refine do_ rfl v167 (ex_assign _) ?_
      simp only [pS, pN, pA, pC, pZ]
      refine wl_nil (hK165 _ _ ?_)
      refine wp_seq_k (fun K171 hK171 => region_wl ?_)
      refine do_ rfl v167 (ex_move _) ?_
      simp only [pS, pN, pA, pC, pZ]
      refine do_ rfl (.agg #[(.slice xa68 (keyL it.1).length xc69), (.slice xa71 (it.2.take 32).length xc72)]) (ex_load rfl (loadN (cs := [(.slice xa68 (keyL it.1).length xc69), (.slice xa71 (it.2.take 32).length xc72)]) Tryd.underlying38 rfl (size_38) (St.range S169 (i := 0) rfl 0 [(.slice xa68 (keyL it.1).length xc69), (.slice xa71 (it.2.take 32).length xc72)] (sub_range 0 rfl)))) ?_
      simp only [pS, pN, pA, pC, pZ]
      refine stNew S169 (v := fun n => .slice (some ⟨n, 0, none⟩) 1 1) rfl (ex_lit (ps := #[(0, (.agg #[(.slice xa68 (keyL it.1).length xc69), (.slice xa71 (it.2.take 32).length xc72)]))]) (cells := #[(.slice xa68 (keyL it.1).length xc69), (.slice xa71 (it.2.take 32).length xc72)]) (E := 38) (bmap1 rfl) (fun w => by kernel_rfl)) (fun n172 w173 S174 => ?_)
      simp only [pS, pN, pA, pC, pZ]
      have S174 : St w F w173 F65 [⟨n172, [(.slice xa68 (keyL it.1).length xc69), (.slice xa71 (it.2.take 32).length xc72)], 38⟩, ⟨n57, [(.slice xa68 (keyL it.1).length xc69), (.slice xa71 (it.2.take 32).length xc72)], 38⟩] [ownP 2 PrC PrC.mono 38 w.heap.size v167 ([] ++ ((pairsN l i).take k)), ownP 2 PrC PrC.mono 38 w.heap.size (.slice a30 (pairsN l i).length cap31) (pairsN l i)] := S174
      refine stPush (i := 0) (r := 0) (p := (keyL it.1, it.2.take 32)) (cs := [(.slice xa68 (keyL it.1).length xc69), (.slice xa71 (it.2.take 32).length xc72)]) S174 rfl i38 (.agg #[(.slice none 0 0), (.slice none 0 0)]) 48 Tryd.underlying40 hi38 hz38 hs38 hb38 rfl (by decide) rfl rfl rfl rfl rfl (PrC.oneCell (p := (keyL it.1, it.2.take 32)) ⟨_, _, rfl, r70, r73⟩) (⟨_, _, rfl, r70, r73⟩) (Nat.le_refl _) S174.gr.below.size (by unfold maxLen; simp only [List.length_append, List.length_take, List.length_nil]; omega) (by simp only [List.length_append, List.length_take, List.length_nil]; omega) ?_
      intro v175 w176 S177 hn178
      simp only [pS, pN, pA, pC, pZ]
      have S177 := St.drop S177 (L' := [⟨n57, [(.slice xa68 (keyL it.1).length xc69), (.slice xa71 (it.2.take 32).length xc72)], 38⟩]) (.cons _ (List.Sublist.refl _))
      have S177 : St w F w176 F65 [⟨n57, [(.slice xa68 (keyL it.1).length xc69), (.slice xa71 (it.2.take 32).length xc72)], 38⟩] [ownP 2 PrC PrC.mono 38 w.heap.size v175 (([] ++ ((pairsN l i).take k)) ++ [(keyL it.1, it.2.take 32)]), ownP 2 PrC PrC.mono 38 w.heap.size (.slice a30 (pairsN l i).length cap31) (pairsN l i)] := S177
      refine do_ rfl v175 (ex_assign _) ?_
      simp only [pS, pN, pA, pC, pZ]
      refine wl_nil (hK171 _ _ ?_)
      refine region_wl ?_
      refine do_ rfl v175 (ex_move _) ?_
      simp only [pS, pN, pA, pC, pZ]
      refine do_ rfl (.slice a30 (pairsN l i).length cap31) (ex_move _) ?_
      simp only [pS, pN, pA, pC, pZ]
      refine do_ rfl (.int .i64 ((k : Nat) : Int)) (ex_move _) ?_
      simp only [pS, pN, pA, pC, pZ]
      refine do_ rfl (.slice (if cap31 = k then a30 else a30.map (·.add (k * 2))) ((pairsN l i).length - k) (cap31 - k)) (ex_slice (l := k) (h := (pairsN l i).length) (sz := 2) Tryd.underlying40 rfl (sizeof_38 _) (.inr ⟨_, rfl, rfl⟩) (.inl ⟨rfl, rfl⟩) (by omega) (by omega) (rfl)) ?_
      simp only [pS, pN, pA, pC, pZ]
      refine stAppendS (r := 0) (u := (.slice (if cap31 = k then a30 else a30.map (·.add (k * 2))) ((pairsN l i).length - k) (cap31 - k))) S177 rfl i38 (.agg #[(.slice none 0 0), (.slice none 0 0)]) 48 Tryd.underlying40 hi38 hz38 hs38 hb38 rfl (by decide) rfl rfl rfl (((S177.own (i := 1) rfl).toW).dropN (m := k) (by omega)) (fun F cs p h => PrC.one F cs p h) (Nat.le_refl _) S177.gr.below.size (by unfold maxLen; simp only [List.length_append, List.length_take, List.length_drop, List.length_nil, List.length_cons]; omega) (by simp only [List.length_append, List.length_take, List.length_drop, List.length_nil, List.length_cons]; omega) ?_
      intro v179 w180 S181 hn182
      simp only [pS, pN, pA, pC, pZ]
      have S181 : St w F w180 F65 [⟨n57, [(.slice xa68 (keyL it.1).length xc69), (.slice xa71 (it.2.take 32).length xc72)], 38⟩] [ownP 2 PrC PrC.mono 38 w.heap.size v179 ((([] ++ ((pairsN l i).take k)) ++ [(keyL it.1, it.2.take 32)]) ++ ((pairsN l i).drop k)), ownP 2 PrC PrC.mono 38 w.heap.size (.slice a30 (pairsN l i).length cap31) (pairsN l i)] := S181
      refine do_ rfl v179 (ex_assign _) ?_
      simp only [pS, pN, pA, pC, pZ]
      refine wl_nil (hK17 _ _ ?_)
      have S183 := St.dropRow S181 (M' := [ownP 2 PrC PrC.mono 38 w.heap.size v179 ((([] ++ ((pairsN l i).take k)) ++ [(keyL it.1, it.2.take 32)]) ++ ((pairsN l i).drop k))]) (.cons_cons _ (.cons _ (List.Sublist.refl _)))
      rw [putT_new (by rw [hhas]; simp), hpos] at hnew
      have hl3 : (([] ++ (pairsN l i).take k) ++ [(keyL it.1, it.2.take 32)]) ++ (pairsN l i).drop k = (pairsN l i).take k ++ (keyL it.1, it.2.take 32) :: (pairsN l i).drop k := by simp
      rw [hl3] at S183
      refine region_wl ?_
      refine do_ rfl (.int .i64 ((i : Nat) : Int)) (ex_move _) ?_
      simp only [pS, pN, pA, pC, pZ]
      refine do_ rfl (.int .i64 (((i + 1) : Nat) : Int)) (ex_add (m := ((i : Nat) : Int)) (n := (1 : Int)) (r := (((i + 1) : Nat) : Int)) rfl rfl (by omega) (by omega) (by omega)) ?_
      simp only [pS, pN, pA, pC, pZ]
      refine do_ rfl (.int .i64 (((i + 1) : Nat) : Int)) (ex_assign _) ?_
      simp only [pS, pN, pA, pC, pZ]
      refine wl_nil ?_
      have S183 := St.drop S183 (L' := []) (.cons _ (List.Sublist.refl _))
      rw [← hnew] at S183
      exact hK14 _ _ _ (by omega) ⟨(i + 1), v179, F65, (slotF [(.slice a l.length c), (.int .i64 ((m : Nat) : Int)), undef, undef, (.slice none 0 0), v179, (.int .i64 (((i + 1) : Nat) : Int)), (.pointer (some ⟨n57, 0, none⟩)), (.int .i64 ((k : Nat) : Int)), v175, (.int .i64 ((i : Nat) : Int)), (.slice a l.length c), (.int .i64 ((l.length : Nat) : Int)), (.bool true), (.bool true), (.int .i64 ((i : Nat) : Int)), (.int .i64 ((m : Nat) : Int)), (.bool true), (.bool true), (.int .i64 ((i : Nat) : Int)), (.int .i64 (((i + 1) : Nat) : Int)), (.slice a l.length c), (.int .i64 ((i : Nat) : Int)), (.pointer (some ⟨b19, o20 + i * 2, none⟩)), (.pointer (some ⟨b19, o20 + i * 2, none⟩)), (.slice xa23 it.1.length xc24), v35, (.slice a l.length c), (.int .i64 ((i : Nat) : Int)), (.pointer (some ⟨b19, o20 + i * 2, none⟩)), (.pointer (some ⟨b19, o20 + i * 2 + 1, none⟩)), (.slice xa27 it.2.length xc28), v36, (.agg #[(.slice xa68 (keyL it.1).length xc69), (.slice xa71 (it.2.take 32).length xc72)]), (.int .i64 ((k : Nat) : Int)), (.slice a30 (pairsN l i).length cap31), (.int .i64 (((pairsN l i).length : Nat) : Int)), (.bool true), (.bool true), (.slice a30 (pairsN l i).length cap31), (.int .i64 ((k : Nat) : Int)), (.pointer (some ⟨g88, 0 + k * 2, none⟩)), (.pointer (some ⟨g88, 0 + k * 2, none⟩)), (.slice xa91 p.1.length xc92), (.string ⟨p.1.toArray⟩), (.pointer (some ⟨n57, 0, none⟩)), (.slice xa68 (keyL it.1).length xc69), (.string ⟨(keyL it.1).toArray⟩), (.bool false), (.bool false), (u78 50), (u78 51), (.int .i64 ((k : Nat) : Int)), (.slice a30 (pairsN l i).length cap31), (.int .i64 (((pairsN l i).length : Nat) : Int)), (.bool false), (.bool false), undef, undef, undef, undef, undef, undef, undef, undef, (.bool false), (u7 66), (u7 67), (u7 68), (u7 69), (.slice none 0 0), (.slice a30 (pairsN l i).length cap31), (.int .i64 ((k : Nat) : Int)), (.slice a30 k cap31), v167, v167, (.agg #[(.slice xa68 (keyL it.1).length xc69), (.slice xa71 (it.2.take 32).length xc72)]), (.slice (some ⟨n172, 0, none⟩) 1 1), v175, v175, (.slice a30 (pairsN l i).length cap31), (.int .i64 ((k : Nat) : Int)), (.slice (if cap31 = k then a30 else a30.map (·.add (k * 2))) ((pairsN l i).length - k) (cap31 - k)), v179, undef]), rfl, rfl, S183, (le13.trans le66), (by omega), (by omega)⟩
   ·refine region_gw F65 14 [] (by kernel_rfl) (by kernel_rfl) ?_
    simp only [List.take_succ_cons, List.take_zero]
    refine gw_pure rfl rfl (.int .i64 ((k : Nat) : Int)) (fun w185 hCw185 => pureAt_of (ex_move _)) ?_
    simp only [pS, pN, pA, pC, pZ]
    refine gw_pure rfl rfl (.slice a30 (pairsN l i).length cap31) (fun w185 hCw185 => pureAt_of (ex_move _)) ?_
    simp only [pS, pN, pA, pC, pZ]
    refine gw_pure rfl rfl (.int .i64 (((pairsN l i).length : Nat) : Int)) (fun w185 hCw185 => pureAt_of (ex_len Tryd.underlying40 rfl)) ?_
    simp only [pS, pN, pA, pC, pZ]
    refine gw_pure rfl rfl (.bool false) (fun w185 hCw185 => pureAt_of (ex_lss (m := ((k : Nat) : Int)) (n := (((pairsN l i).length : Nat) : Int)) (b := false) rfl rfl (decide_eq_false (by omega)))) ?_
    simp only [pS, pN, pA, pC, pZ]
    refine gw_pure rfl rfl (.bool false) (fun w185 hCw185 => pureAt_of (ex_move _)) ?_
    simp only [pS, pN, pA, pC, pZ]
    refine gw_skip (wanted_no rfl rfl rfl (c := false) rfl (by decide)) ?_
    simp only [pS, pN, pA, pC, pZ]
    refine gw_skip (wanted_no rfl rfl rfl (c := false) rfl (by decide)) ?_
    simp only [pS, pN, pA, pC, pZ]
    refine gw_skip (wanted_no rfl rfl rfl (c := false) rfl (by decide)) ?_
    simp only [pS, pN, pA, pC, pZ]
    refine gw_skip (wanted_no rfl rfl rfl (c := false) rfl (by decide)) ?_
    simp only [pS, pN, pA, pC, pZ]
    refine gw_skip (wanted_no rfl rfl rfl (c := false) rfl (by decide)) ?_
    simp only [pS, pN, pA, pC, pZ]
    refine gw_skip (wanted_no rfl rfl rfl (c := false) rfl (by decide)) ?_
    simp only [pS, pN, pA, pC, pZ]
    refine gw_skip (wanted_no rfl rfl rfl (c := false) rfl (by decide)) ?_
    simp only [pS, pN, pA, pC, pZ]
    refine gw_skip (wanted_no rfl rfl rfl (c := false) rfl (by decide)) ?_
    simp only [pS, pN, pA, pC, pZ]
    refine gw_skip (wanted_no rfl rfl rfl (c := false) rfl (by decide)) ?_
    simp only [pS, pN, pA, pC, pZ]
    refine gw_nil ?_
    intro w186 hC188 hF189
    clear hF189
    have S187 := St.tells S83 hC188
    simp only [List.drop_succ_cons, List.drop_zero]
    refine doN (wanted_no rfl rfl rfl (c := false) rfl (by decide)) ?_
    simp only [pS, pN, pA, pC, pZ]
    refine do_ rfl (.bool false) (ex_pick (b := false) rfl) ?_
    simp only [pS, pN, pA, pC, pZ]
    refine wl_nil (hK87 _ _ ?_)
    refine wp_cond_false rfl ?_
    refine wp_exit ?_
    refine hK77 _ _ ?_
    refine wp_seq_k (fun K190 hK190 => ?_)
    refine wp_seq_k (fun K191 hK191 => ?_)
    have hpos : posT (pairsN l i) (keyL it.1) = k := by first | exact Nat.le_antisymm (pos_le hp (fun h => hlt (cmpL_lt.1 h))) hk | omega
    by_cases hkl2 : k < (pairsN l i).length
    ·obtain ⟨p2, hp2⟩ : ∃ p, (pairsN l i)[k]? = some p := ⟨(pairsN l i)[k], List.getElem?_eq_getElem hkl2⟩
     obtain ⟨g192, ha193, xa195, xc196, xa199, xc200, c194, c198, r197, r201⟩ := pr_at (S187.own (i := 0) rfl) hp2
     by_cases heq : p2.1 = (keyL it.1)
     ·have hhas := has_yes hor (by rw [hpos]; exact hp2) (cmpL_eq.2 heq)
      refine region_gw F65 12 [] (by kernel_rfl) (by kernel_rfl) ?_
      simp only [List.take_succ_cons, List.take_zero]
      refine gw_pure rfl rfl (.int .i64 ((k : Nat) : Int)) (fun w202 hCw202 => pureAt_of (ex_move _)) ?_
      simp only [pS, pN, pA, pC, pZ]
      refine gw_pure rfl rfl (.slice a30 (pairsN l i).length cap31) (fun w202 hCw202 => pureAt_of (ex_move _)) ?_
      simp only [pS, pN, pA, pC, pZ]
      refine gw_pure rfl rfl (.int .i64 (((pairsN l i).length : Nat) : Int)) (fun w202 hCw202 => pureAt_of (ex_len Tryd.underlying40 rfl)) ?_
      simp only [pS, pN, pA, pC, pZ]
      refine gw_pure rfl rfl (.bool true) (fun w202 hCw202 => pureAt_of (ex_lss (m := ((k : Nat) : Int)) (n := (((pairsN l i).length : Nat) : Int)) (b := true) rfl rfl (decide_eq_true (by omega)))) ?_
      simp only [pS, pN, pA, pC, pZ]
      refine gw_pure rfl rfl (.bool true) (fun w202 hCw202 => pureAt_of (ex_move _)) ?_
      simp only [pS, pN, pA, pC, pZ]
      refine gw_pure rfl rfl (.slice a30 (pairsN l i).length cap31) (fun w202 hCw202 => pureAt_of (ex_move _)) ?_
      simp only [pS, pN, pA, pC, pZ]
      refine gw_pure rfl rfl (.int .i64 ((k : Nat) : Int)) (fun w202 hCw202 => pureAt_of (ex_move _)) ?_
      simp only [pS, pN, pA, pC, pZ]
      refine gw_pure rfl rfl (.pointer (some ⟨g192, 0 + k * 2, none⟩)) (fun w202 hCw202 => pureAt_of (ex_at (i := k) (sz := 2) Tryd.underlying40 (sizeof_38 _) rfl ha193 rfl (by omega) rfl)) ?_
      simp only [pS, pN, pA, pC, pZ]
      refine gw_pure rfl rfl (.pointer (some ⟨g192, 0 + k * 2, none⟩)) (fun w202 hCw202 => pureAt_of (ex_field (q := ⟨g192, 0 + k * 2, none⟩) rfl (fa_38_0 _ _))) ?_
      simp only [pS, pN, pA, pC, pZ]
      refine gw_pure rfl rfl (.slice xa195 p2.1.length xc196) (fun w202 hCw202 => pureAt_of (ex_load rfl (load1 (nagg_22 _) (cell_kept hCw202 c194)))) ?_
      simp only [pS, pN, pA, pC, pZ]
      refine gw_pure rfl rfl (.pointer (some ⟨n57, 0, none⟩)) (fun w202 hCw202 => pureAt_of (ex_field (q := ⟨n57, 0, none⟩) rfl (fa_38_0 _ _))) ?_
      simp only [pS, pN, pA, pC, pZ]
      refine gw_pure rfl rfl (.slice xa68 (keyL it.1).length xc69) (fun w202 hCw202 => pureAt_of (ex_load rfl (load1 (nagg_22 _) (St.cell (St.tells S187 hCw202) (i := 0) rfl rfl)))) ?_
      simp only [pS, pN, pA, pC, pZ]
      refine gw_nil ?_
      intro w203 hC205 hF206
      clear hF206
      have S204 := St.tells S187 hC205
      simp only [List.drop_succ_cons, List.drop_zero]
      refine stTells (v := (.bool true)) S204 rfl (ex_fn (vs := #[(.slice xa195 p2.1.length xc196), (.slice xa68 (keyL it.1).length xc69)]) (map2 rfl rfl) rfl (ent_16 _ _)) (tells_bool (tells_same (same_spec _ _ _ _ p2.1 (keyL it.1) (S204).sat r197 r70)) (beq_iff_eq.2 heq)) (fun w207 S208 => ?_)
      simp only [pS, pN, pA, pC, pZ]
      refine do_ rfl (.bool true) (ex_pick (b := true) rfl) ?_
      simp only [pS, pN, pA, pC, pZ]
      refine wl_nil (hK191 _ _ ?_)
      refine wp_cond_true rfl ?_
      refine wp_seq_k (fun K209 hK209 => ?_)
      obtain ⟨g210, rfl⟩ := Own.addr0 (S208.own (i := 0) rfl) (by omega)
      refine region_wl ?_
      refine do_ rfl (.slice (some ⟨g210, 0, none⟩) (pairsN l i).length cap31) (ex_move _) ?_
      simp only [pS, pN, pA, pC, pZ]
      refine do_ rfl (.int .i64 ((k : Nat) : Int)) (ex_move _) ?_
      simp only [pS, pN, pA, pC, pZ]
      refine do_ rfl (.agg #[(.slice xa68 (keyL it.1).length xc69), (.slice xa71 (it.2.take 32).length xc72)]) (ex_load rfl (loadN (cs := [(.slice xa68 (keyL it.1).length xc69), (.slice xa71 (it.2.take 32).length xc72)]) Tryd.underlying38 rfl (size_38) (St.range S208 (i := 0) rfl 0 [(.slice xa68 (keyL it.1).length xc69), (.slice xa71 (it.2.take 32).length xc72)] (sub_range 0 rfl)))) ?_
      simp only [pS, pN, pA, pC, pZ]
      refine do_ rfl (.pointer (some ⟨g210, 0 + k * 2, none⟩)) (ex_at (i := k) (sz := 2) Tryd.underlying40 (sizeof_38 _) rfl rfl rfl (by omega) rfl) ?_
      simp only [pS, pN, pA, pC, pZ]
      refine stSetRow (r := 0) (i := k) (p := (keyL it.1, it.2.take 32)) (u := (.agg #[(.slice xa68 (keyL it.1).length xc69), (.slice xa71 (it.2.take 32).length xc72)])) S208 rfl rfl (by omega) rfl rfl (by omega) (size_38) (allc2 rfl rfl) rfl ⟨_, _, rfl, r70, r73⟩ (Nat.le_refl _) (fun w211 S212 => ?_)
      simp only [pS, pN, pA, pC, pZ]
      have S212 : St w F w211 F65 [⟨n57, [(.slice xa68 (keyL it.1).length xc69), (.slice xa71 (it.2.take 32).length xc72)], 38⟩] [ownP 2 PrC PrC.mono 38 w.heap.size (.slice (some ⟨g210, 0, none⟩) (pairsN l i).length cap31) ((pairsN l i).set k (keyL it.1, it.2.take 32))] := S212
      refine wl_nil (hK209 _ _ ?_)
      refine wp_exit ?_
      refine hK17 _ _ ?_
      rw [putT_have hhas, hpos] at hnew
      refine region_wl ?_
      refine do_ rfl (.int .i64 ((i : Nat) : Int)) (ex_move _) ?_
      simp only [pS, pN, pA, pC, pZ]
      refine do_ rfl (.int .i64 (((i + 1) : Nat) : Int)) (ex_add (m := ((i : Nat) : Int)) (n := (1 : Int)) (r := (((i + 1) : Nat) : Int)) rfl rfl (by omega) (by omega) (by omega)) ?_
      simp only [pS, pN, pA, pC, pZ]
      refine do_ rfl (.int .i64 (((i + 1) : Nat) : Int)) (ex_assign _) ?_
      simp only [pS, pN, pA, pC, pZ]
      refine wl_nil ?_
      have S212 := St.drop S212 (L' := []) (.cons _ (List.Sublist.refl _))
      rw [← hnew] at S212
      exact hK14 _ _ _ (by omega) ⟨(i + 1), (.slice (some ⟨g210, 0, none⟩) (pairsN l i).length cap31), F65, (slotF [(.slice a l.length c), (.int .i64 ((m : Nat) : Int)), undef, undef, (.slice none 0 0), (.slice (some ⟨g210, 0, none⟩) (pairsN l i).length cap31), (.int .i64 (((i + 1) : Nat) : Int)), (.pointer (some ⟨n57, 0, none⟩)), (.int .i64 ((k : Nat) : Int)), (u7 9), (.int .i64 ((i : Nat) : Int)), (.slice a l.length c), (.int .i64 ((l.length : Nat) : Int)), (.bool true), (.bool true), (.int .i64 ((i : Nat) : Int)), (.int .i64 ((m : Nat) : Int)), (.bool true), (.bool true), (.int .i64 ((i : Nat) : Int)), (.int .i64 (((i + 1) : Nat) : Int)), (.slice a l.length c), (.int .i64 ((i : Nat) : Int)), (.pointer (some ⟨b19, o20 + i * 2, none⟩)), (.pointer (some ⟨b19, o20 + i * 2, none⟩)), (.slice xa23 it.1.length xc24), v35, (.slice a l.length c), (.int .i64 ((i : Nat) : Int)), (.pointer (some ⟨b19, o20 + i * 2, none⟩)), (.pointer (some ⟨b19, o20 + i * 2 + 1, none⟩)), (.slice xa27 it.2.length xc28), v36, (.agg #[(.slice xa68 (keyL it.1).length xc69), (.slice xa71 (it.2.take 32).length xc72)]), (.int .i64 ((k : Nat) : Int)), (.slice (some ⟨g210, 0, none⟩) (pairsN l i).length cap31), (.int .i64 (((pairsN l i).length : Nat) : Int)), (.bool false), (.bool false), undef, undef, undef, undef, undef, undef, undef, undef, undef, undef, (.bool false), (u78 50), (u78 51), (.int .i64 ((k : Nat) : Int)), (.slice (some ⟨g210, 0, none⟩) (pairsN l i).length cap31), (.int .i64 (((pairsN l i).length : Nat) : Int)), (.bool true), (.bool true), (.slice (some ⟨g210, 0, none⟩) (pairsN l i).length cap31), (.int .i64 ((k : Nat) : Int)), (.pointer (some ⟨g192, 0 + k * 2, none⟩)), (.pointer (some ⟨g192, 0 + k * 2, none⟩)), (.slice xa195 p2.1.length xc196), (.pointer (some ⟨n57, 0, none⟩)), (.slice xa68 (keyL it.1).length xc69), (.bool true), (.bool true), (.slice (some ⟨g210, 0, none⟩) (pairsN l i).length cap31), (.int .i64 ((k : Nat) : Int)), (.agg #[(.slice xa68 (keyL it.1).length xc69), (.slice xa71 (it.2.take 32).length xc72)]), (.pointer (some ⟨g210, 0 + k * 2, none⟩)), (u7 70), (u7 71), (u7 72), (u7 73), (u7 74), (u7 75), (u7 76), (u7 77), (u7 78), (u7 79), (u7 80), (u7 81), (u7 82), (u7 83), undef]), rfl, rfl, S212, (le13.trans le66), (by omega), (by omega)⟩
     ·have hhas := has_no hor (by rw [hpos]; exact hp2) (fun h => heq (cmpL_eq.1 h))
      refine region_gw F65 12 [] (by kernel_rfl) (by kernel_rfl) ?_
      simp only [List.take_succ_cons, List.take_zero]
      refine gw_pure rfl rfl (.int .i64 ((k : Nat) : Int)) (fun w213 hCw213 => pureAt_of (ex_move _)) ?_
      simp only [pS, pN, pA, pC, pZ]
      refine gw_pure rfl rfl (.slice a30 (pairsN l i).length cap31) (fun w213 hCw213 => pureAt_of (ex_move _)) ?_
      simp only [pS, pN, pA, pC, pZ]
      refine gw_pure rfl rfl (.int .i64 (((pairsN l i).length : Nat) : Int)) (fun w213 hCw213 => pureAt_of (ex_len Tryd.underlying40 rfl)) ?_
      simp only [pS, pN, pA, pC, pZ]
      refine gw_pure rfl rfl (.bool true) (fun w213 hCw213 => pureAt_of (ex_lss (m := ((k : Nat) : Int)) (n := (((pairsN l i).length : Nat) : Int)) (b := true) rfl rfl (decide_eq_true (by omega)))) ?_
      simp only [pS, pN, pA, pC, pZ]
      refine gw_pure rfl rfl (.bool true) (fun w213 hCw213 => pureAt_of (ex_move _)) ?_
      simp only [pS, pN, pA, pC, pZ]
      refine gw_pure rfl rfl (.slice a30 (pairsN l i).length cap31) (fun w213 hCw213 => pureAt_of (ex_move _)) ?_
      simp only [pS, pN, pA, pC, pZ]
      refine gw_pure rfl rfl (.int .i64 ((k : Nat) : Int)) (fun w213 hCw213 => pureAt_of (ex_move _)) ?_
      simp only [pS, pN, pA, pC, pZ]
      refine gw_pure rfl rfl (.pointer (some ⟨g192, 0 + k * 2, none⟩)) (fun w213 hCw213 => pureAt_of (ex_at (i := k) (sz := 2) Tryd.underlying40 (sizeof_38 _) rfl ha193 rfl (by omega) rfl)) ?_
      simp only [pS, pN, pA, pC, pZ]
      refine gw_pure rfl rfl (.pointer (some ⟨g192, 0 + k * 2, none⟩)) (fun w213 hCw213 => pureAt_of (ex_field (q := ⟨g192, 0 + k * 2, none⟩) rfl (fa_38_0 _ _))) ?_
      simp only [pS, pN, pA, pC, pZ]
      refine gw_pure rfl rfl (.slice xa195 p2.1.length xc196) (fun w213 hCw213 => pureAt_of (ex_load rfl (load1 (nagg_22 _) (cell_kept hCw213 c194)))) ?_
      simp only [pS, pN, pA, pC, pZ]
      refine gw_pure rfl rfl (.pointer (some ⟨n57, 0, none⟩)) (fun w213 hCw213 => pureAt_of (ex_field (q := ⟨n57, 0, none⟩) rfl (fa_38_0 _ _))) ?_
      simp only [pS, pN, pA, pC, pZ]
      refine gw_pure rfl rfl (.slice xa68 (keyL it.1).length xc69) (fun w213 hCw213 => pureAt_of (ex_load rfl (load1 (nagg_22 _) (St.cell (St.tells S187 hCw213) (i := 0) rfl rfl)))) ?_
      simp only [pS, pN, pA, pC, pZ]
      refine gw_nil ?_
      intro w214 hC216 hF217
      clear hF217
      have S215 := St.tells S187 hC216
      simp only [List.drop_succ_cons, List.drop_zero]
      refine stTells (v := (.bool false)) S215 rfl (ex_fn (vs := #[(.slice xa195 p2.1.length xc196), (.slice xa68 (keyL it.1).length xc69)]) (map2 rfl rfl) rfl (ent_16 _ _)) (tells_bool (tells_same (same_spec _ _ _ _ p2.1 (keyL it.1) (S215).sat r197 r70)) (beq_eq_false_iff_ne.2 heq)) (fun w218 S219 => ?_)
      simp only [pS, pN, pA, pC, pZ]
      refine do_ rfl (.bool false) (ex_pick (b := true) rfl) ?_
      simp only [pS, pN, pA, pC, pZ]
      refine wl_nil (hK191 _ _ ?_)
      refine wp_cond_false rfl ?_
      refine wp_skip ?_
      refine hK190 _ _ ?_
      refine wp_seq_k (fun K220 hK220 => region_wl ?_)
      refine do_ rfl (.slice none 0 0) (ex_assign _) ?_
      simp only [pS, pN, pA, pC, pZ]
      refine wl_nil (hK220 _ _ ?_)
      refine wp_seq_k (fun K221 hK221 => ?_)
      have S222 := St.addNil S219 2 PrC PrC.mono 38 w.heap.size
      refine region_wl ?_
      refine do_ rfl (.slice none 0 0) (ex_move _) ?_
      simp only [pS, pN, pA, pC, pZ]
      refine do_ rfl (.slice a30 (pairsN l i).length cap31) (ex_move _) ?_
      simp only [pS, pN, pA, pC, pZ]
      refine do_ rfl (.int .i64 ((k : Nat) : Int)) (ex_move _) ?_
      simp only [pS, pN, pA, pC, pZ]
      refine do_ rfl (.slice a30 k cap31) (ex_slice (l := 0) (h := k) (sz := 2) Tryd.underlying40 rfl (sizeof_38 _) (.inl ⟨rfl, rfl⟩) (.inr ⟨_, rfl, rfl⟩) (by omega) (by omega) (slice_zero)) ?_
      simp only [pS, pN, pA, pC, pZ]
      refine stAppendS (r := 0) (u := (.slice a30 k cap31)) S222 rfl i38 (.agg #[(.slice none 0 0), (.slice none 0 0)]) 48 Tryd.underlying40 hi38 hz38 hs38 hb38 rfl (by decide) rfl rfl rfl (((S222.own (i := 1) rfl).toW).takeN (m := k) (by omega)) (fun F cs p h => PrC.one F cs p h) (Nat.le_refl _) S222.gr.below.size (by unfold maxLen; simp only [List.length_append, List.length_take, List.length_drop, List.length_nil, List.length_cons]; omega) (by simp only [List.length_append, List.length_take, List.length_drop, List.length_nil, List.length_cons]; omega) ?_
      intro v223 w224 S225 hn226
      simp only [pS, pN, pA, pC, pZ]
      have S225 : St w F w224 F65 [⟨n57, [(.slice xa68 (keyL it.1).length xc69), (.slice xa71 (it.2.take 32).length xc72)], 38⟩] [ownP 2 PrC PrC.mono 38 w.heap.size v223 ([] ++ ((pairsN l i).take k)), ownP 2 PrC PrC.mono 38 w.heap.size (.slice a30 (pairsN l i).length cap31) (pairsN l i)] := S225
      refine do_ rfl v223 (ex_assign _) ?_
      simp only [pS, pN, pA, pC, pZ]
      refine wl_nil (hK221 _ _ ?_)
      refine wp_seq_k (fun K227 hK227 => region_wl ?_)
      refine do_ rfl v223 (ex_move _) ?_
      simp only [pS, pN, pA, pC, pZ]
      refine do_ rfl (.agg #[(.slice xa68 (keyL it.1).length xc69), (.slice xa71 (it.2.take 32).length xc72)]) (ex_load rfl (loadN (cs := [(.slice xa68 (keyL it.1).length xc69), (.slice xa71 (it.2.take 32).length xc72)]) Tryd.underlying38 rfl (size_38) (St.range S225 (i := 0) rfl 0 [(.slice xa68 (keyL it.1).length xc69), (.slice xa71 (it.2.take 32).length xc72)] (sub_range 0 rfl)))) ?_
      simp only [pS, pN, pA, pC, pZ]
      refine stNew S225 (v := fun n => .slice (some ⟨n, 0, none⟩) 1 1) rfl (ex_lit (ps := #[(0, (.agg #[(.slice xa68 (keyL it.1).length xc69), (.slice xa71 (it.2.take 32).length xc72)]))]) (cells := #[(.slice xa68 (keyL it.1).length xc69), (.slice xa71 (it.2.take 32).length xc72)]) (E := 38) (bmap1 rfl) (fun w => by kernel_rfl)) (fun n228 w229 S230 => ?_)
      simp only [pS, pN, pA, pC, pZ]
      have S230 : St w F w229 F65 [⟨n228, [(.slice xa68 (keyL it.1).length xc69), (.slice xa71 (it.2.take 32).length xc72)], 38⟩, ⟨n57, [(.slice xa68 (keyL it.1).length xc69), (.slice xa71 (it.2.take 32).length xc72)], 38⟩] [ownP 2 PrC PrC.mono 38 w.heap.size v223 ([] ++ ((pairsN l i).take k)), ownP 2 PrC PrC.mono 38 w.heap.size (.slice a30 (pairsN l i).length cap31) (pairsN l i)] := S230
      refine stPush (i := 0) (r := 0) (p := (keyL it.1, it.2.take 32)) (cs := [(.slice xa68 (keyL it.1).length xc69), (.slice xa71 (it.2.take 32).length xc72)]) S230 rfl i38 (.agg #[(.slice none 0 0), (.slice none 0 0)]) 48 Tryd.underlying40 hi38 hz38 hs38 hb38 rfl (by decide) rfl rfl rfl rfl rfl (PrC.oneCell (p := (keyL it.1, it.2.take 32)) ⟨_, _, rfl, r70, r73⟩) (⟨_, _, rfl, r70, r73⟩) (Nat.le_refl _) S230.gr.below.size (by unfold maxLen; simp only [List.length_append, List.length_take, List.length_nil]; omega) (by simp only [List.length_append, List.length_take, List.length_nil]; omega) ?_
      intro v231 w232 S233 hn234
      simp only [pS, pN, pA, pC, pZ]
      have S233 := St.drop S233 (L' := [⟨n57, [(.slice xa68 (keyL it.1).length xc69), (.slice xa71 (it.2.take 32).length xc72)], 38⟩]) (.cons _ (List.Sublist.refl _))
      have S233 : St w F w232 F65 [⟨n57, [(.slice xa68 (keyL it.1).length xc69), (.slice xa71 (it.2.take 32).length xc72)], 38⟩] [ownP 2 PrC PrC.mono 38 w.heap.size v231 (([] ++ ((pairsN l i).take k)) ++ [(keyL it.1, it.2.take 32)]), ownP 2 PrC PrC.mono 38 w.heap.size (.slice a30 (pairsN l i).length cap31) (pairsN l i)] := S233
      refine do_ rfl v231 (ex_assign _) ?_
      simp only [pS, pN, pA, pC, pZ]
      refine wl_nil (hK227 _ _ ?_)
      refine region_wl ?_
      refine do_ rfl v231 (ex_move _) ?_
      simp only [pS, pN, pA, pC, pZ]
      refine do_ rfl (.slice a30 (pairsN l i).length cap31) (ex_move _) ?_
      simp only [pS, pN, pA, pC, pZ]
      refine do_ rfl (.int .i64 ((k : Nat) : Int)) (ex_move _) ?_
      simp only [pS, pN, pA, pC, pZ]
      refine do_ rfl (.slice (if cap31 = k then a30 else a30.map (·.add (k * 2))) ((pairsN l i).length - k) (cap31 - k)) (ex_slice (l := k) (h := (pairsN l i).length) (sz := 2) Tryd.underlying40 rfl (sizeof_38 _) (.inr ⟨_, rfl, rfl⟩) (.inl ⟨rfl, rfl⟩) (by omega) (by omega) (rfl)) ?_
      simp only [pS, pN, pA, pC, pZ]
      refine stAppendS (r := 0) (u := (.slice (if cap31 = k then a30 else a30.map (·.add (k * 2))) ((pairsN l i).length - k) (cap31 - k))) S233 rfl i38 (.agg #[(.slice none 0 0), (.slice none 0 0)]) 48 Tryd.underlying40 hi38 hz38 hs38 hb38 rfl (by decide) rfl rfl rfl (((S233.own (i := 1) rfl).toW).dropN (m := k) (by omega)) (fun F cs p h => PrC.one F cs p h) (Nat.le_refl _) S233.gr.below.size (by unfold maxLen; simp only [List.length_append, List.length_take, List.length_drop, List.length_nil, List.length_cons]; omega) (by simp only [List.length_append, List.length_take, List.length_drop, List.length_nil, List.length_cons]; omega) ?_
      intro v235 w236 S237 hn238
      simp only [pS, pN, pA, pC, pZ]
      have S237 : St w F w236 F65 [⟨n57, [(.slice xa68 (keyL it.1).length xc69), (.slice xa71 (it.2.take 32).length xc72)], 38⟩] [ownP 2 PrC PrC.mono 38 w.heap.size v235 ((([] ++ ((pairsN l i).take k)) ++ [(keyL it.1, it.2.take 32)]) ++ ((pairsN l i).drop k)), ownP 2 PrC PrC.mono 38 w.heap.size (.slice a30 (pairsN l i).length cap31) (pairsN l i)] := S237
      refine do_ rfl v235 (ex_assign _) ?_
      simp only [pS, pN, pA, pC, pZ]
      refine wl_nil (hK17 _ _ ?_)
      have S239 := St.dropRow S237 (M' := [ownP 2 PrC PrC.mono 38 w.heap.size v235 ((([] ++ ((pairsN l i).take k)) ++ [(keyL it.1, it.2.take 32)]) ++ ((pairsN l i).drop k))]) (.cons_cons _ (.cons _ (List.Sublist.refl _)))
      rw [putT_new (by rw [hhas]; simp), hpos] at hnew
      have hl3 : (([] ++ (pairsN l i).take k) ++ [(keyL it.1, it.2.take 32)]) ++ (pairsN l i).drop k = (pairsN l i).take k ++ (keyL it.1, it.2.take 32) :: (pairsN l i).drop k := by simp
      rw [hl3] at S239
      refine region_wl ?_
      refine do_ rfl (.int .i64 ((i : Nat) : Int)) (ex_move _) ?_
      simp only [pS, pN, pA, pC, pZ]
      refine do_ rfl (.int .i64 (((i + 1) : Nat) : Int)) (ex_add (m := ((i : Nat) : Int)) (n := (1 : Int)) (r := (((i + 1) : Nat) : Int)) rfl rfl (by omega) (by omega) (by omega)) ?_
      simp only [pS, pN, pA, pC, pZ]
      refine do_ rfl (.int .i64 (((i + 1) : Nat) : Int)) (ex_assign _) ?_
      simp only [pS, pN, pA, pC, pZ]
      refine wl_nil ?_
      have S239 := St.drop S239 (L' := []) (.cons _ (List.Sublist.refl _))
      rw [← hnew] at S239
      exact hK14 _ _ _ (by omega) ⟨(i + 1), v235, F65, (slotF [(.slice a l.length c), (.int .i64 ((m : Nat) : Int)), undef, undef, (.slice none 0 0), v235, (.int .i64 (((i + 1) : Nat) : Int)), (.pointer (some ⟨n57, 0, none⟩)), (.int .i64 ((k : Nat) : Int)), v231, (.int .i64 ((i : Nat) : Int)), (.slice a l.length c), (.int .i64 ((l.length : Nat) : Int)), (.bool true), (.bool true), (.int .i64 ((i : Nat) : Int)), (.int .i64 ((m : Nat) : Int)), (.bool true), (.bool true), (.int .i64 ((i : Nat) : Int)), (.int .i64 (((i + 1) : Nat) : Int)), (.slice a l.length c), (.int .i64 ((i : Nat) : Int)), (.pointer (some ⟨b19, o20 + i * 2, none⟩)), (.pointer (some ⟨b19, o20 + i * 2, none⟩)), (.slice xa23 it.1.length xc24), v35, (.slice a l.length c), (.int .i64 ((i : Nat) : Int)), (.pointer (some ⟨b19, o20 + i * 2, none⟩)), (.pointer (some ⟨b19, o20 + i * 2 + 1, none⟩)), (.slice xa27 it.2.length xc28), v36, (.agg #[(.slice xa68 (keyL it.1).length xc69), (.slice xa71 (it.2.take 32).length xc72)]), (.int .i64 ((k : Nat) : Int)), (.slice a30 (pairsN l i).length cap31), (.int .i64 (((pairsN l i).length : Nat) : Int)), (.bool false), (.bool false), undef, undef, undef, undef, undef, undef, undef, undef, undef, undef, (.bool false), (u78 50), (u78 51), (.int .i64 ((k : Nat) : Int)), (.slice a30 (pairsN l i).length cap31), (.int .i64 (((pairsN l i).length : Nat) : Int)), (.bool true), (.bool true), (.slice a30 (pairsN l i).length cap31), (.int .i64 ((k : Nat) : Int)), (.pointer (some ⟨g192, 0 + k * 2, none⟩)), (.pointer (some ⟨g192, 0 + k * 2, none⟩)), (.slice xa195 p2.1.length xc196), (.pointer (some ⟨n57, 0, none⟩)), (.slice xa68 (keyL it.1).length xc69), (.bool false), (.bool false), (u7 66), (u7 67), (u7 68), (u7 69), (.slice none 0 0), (.slice a30 (pairsN l i).length cap31), (.int .i64 ((k : Nat) : Int)), (.slice a30 k cap31), v223, v223, (.agg #[(.slice xa68 (keyL it.1).length xc69), (.slice xa71 (it.2.take 32).length xc72)]), (.slice (some ⟨n228, 0, none⟩) 1 1), v231, v231, (.slice a30 (pairsN l i).length cap31), (.int .i64 ((k : Nat) : Int)), (.slice (if cap31 = k then a30 else a30.map (·.add (k * 2))) ((pairsN l i).length - k) (cap31 - k)), v235, undef]), rfl, rfl, S239, (le13.trans le66), (by omega), (by omega)⟩
    ·have hhas : hasT (pairsN l i) (keyL it.1) = false := has_end hor (by omega)
     refine region_gw F65 12 [] (by kernel_rfl) (by kernel_rfl) ?_
     simp only [List.take_succ_cons, List.take_zero]
     refine gw_pure rfl rfl (.int .i64 ((k : Nat) : Int)) (fun w241 hCw241 => pureAt_of (ex_move _)) ?_
     simp only [pS, pN, pA, pC, pZ]
     refine gw_pure rfl rfl (.slice a30 (pairsN l i).length cap31) (fun w241 hCw241 => pureAt_of (ex_move _)) ?_
     simp only [pS, pN, pA, pC, pZ]
     refine gw_pure rfl rfl (.int .i64 (((pairsN l i).length : Nat) : Int)) (fun w241 hCw241 => pureAt_of (ex_len Tryd.underlying40 rfl)) ?_
     simp only [pS, pN, pA, pC, pZ]
     refine gw_pure rfl rfl (.bool false) (fun w241 hCw241 => pureAt_of (ex_lss (m := ((k : Nat) : Int)) (n := (((pairsN l i).length : Nat) : Int)) (b := false) rfl rfl (decide_eq_false (by omega)))) ?_
     simp only [pS, pN, pA, pC, pZ]
     refine gw_pure rfl rfl (.bool false) (fun w241 hCw241 => pureAt_of (ex_move _)) ?_
     simp only [pS, pN, pA, pC, pZ]
     refine gw_skip (wanted_no rfl rfl rfl (c := false) rfl (by decide)) ?_
     simp only [pS, pN, pA, pC, pZ]
     refine gw_skip (wanted_no rfl rfl rfl (c := false) rfl (by decide)) ?_
     simp only [pS, pN, pA, pC, pZ]
     refine gw_skip (wanted_no rfl rfl rfl (c := false) rfl (by decide)) ?_
     simp only [pS, pN, pA, pC, pZ]
     refine gw_skip (wanted_no rfl rfl rfl (c := false) rfl (by decide)) ?_
     simp only [pS, pN, pA, pC, pZ]
     refine gw_skip (wanted_no rfl rfl rfl (c := false) rfl (by decide)) ?_
     simp only [pS, pN, pA, pC, pZ]
     refine gw_skip (wanted_no rfl rfl rfl (c := false) rfl (by decide)) ?_
     simp only [pS, pN, pA, pC, pZ]
     refine gw_skip (wanted_no rfl rfl rfl (c := false) rfl (by decide)) ?_
     simp only [pS, pN, pA, pC, pZ]
     refine gw_nil ?_
     intro w242 hC244 hF245
     clear hF245
     have S243 := St.tells S187 hC244
     simp only [List.drop_succ_cons, List.drop_zero]
     refine doN (wanted_no rfl rfl rfl (c := false) rfl (by decide)) ?_
     simp only [pS, pN, pA, pC, pZ]
     refine do_ rfl (.bool false) (ex_pick (b := false) rfl) ?_
     simp only [pS, pN, pA, pC, pZ]
     refine wl_nil (hK191 _ _ ?_)
     refine wp_cond_false rfl ?_
     refine wp_skip ?_
     refine hK190 _ _ ?_
     refine wp_seq_k (fun K246 hK246 => region_wl ?_)
     refine do_ rfl (.slice none 0 0) (ex_assign _) ?_
     simp only [pS, pN, pA, pC, pZ]
     refine wl_nil (hK246 _ _ ?_)
     refine wp_seq_k (fun K247 hK247 => ?_)
     have S248 := St.addNil S243 2 PrC PrC.mono 38 w.heap.size
     refine region_wl ?_
     refine do_ rfl (.slice none 0 0) (ex_move _) ?_
     simp only [pS, pN, pA, pC, pZ]
     refine do_ rfl (.slice a30 (pairsN l i).length cap31) (ex_move _) ?_
     simp only [pS, pN, pA, pC, pZ]
     refine do_ rfl (.int .i64 ((k : Nat) : Int)) (ex_move _) ?_
     simp only [pS, pN, pA, pC, pZ]
     refine do_ rfl (.slice a30 k cap31) (ex_slice (l := 0) (h := k) (sz := 2) Tryd.underlying40 rfl (sizeof_38 _) (.inl ⟨rfl, rfl⟩) (.inr ⟨_, rfl, rfl⟩) (by omega) (by omega) (slice_zero)) ?_
     simp only [pS, pN, pA, pC, pZ]
     refine stAppendS (r := 0) (u := (.slice a30 k cap31)) S248 rfl i38 (.agg #[(.slice none 0 0), (.slice none 0 0)]) 48 Tryd.underlying40 hi38 hz38 hs38 hb38 rfl (by decide) rfl rfl rfl (((S248.own (i := 1) rfl).toW).takeN (m := k) (by omega)) (fun F cs p h => PrC.one F cs p h) (Nat.le_refl _) S248.gr.below.size (by unfold maxLen; simp only [List.length_append, List.length_take, List.length_drop, List.length_nil, List.length_cons]; omega) (by simp only [List.length_append, List.length_take, List.length_drop, List.length_nil, List.length_cons]; omega) ?_
     intro v249 w250 S251 hn252
     simp only [pS, pN, pA, pC, pZ]
     have S251 : St w F w250 F65 [⟨n57, [(.slice xa68 (keyL it.1).length xc69), (.slice xa71 (it.2.take 32).length xc72)], 38⟩] [ownP 2 PrC PrC.mono 38 w.heap.size v249 ([] ++ ((pairsN l i).take k)), ownP 2 PrC PrC.mono 38 w.heap.size (.slice a30 (pairsN l i).length cap31) (pairsN l i)] := S251
     refine do_ rfl v249 (ex_assign _) ?_
     simp only [pS, pN, pA, pC, pZ]
     refine wl_nil (hK247 _ _ ?_)
     refine wp_seq_k (fun K253 hK253 => region_wl ?_)
     refine do_ rfl v249 (ex_move _) ?_
     simp only [pS, pN, pA, pC, pZ]
     refine do_ rfl (.agg #[(.slice xa68 (keyL it.1).length xc69), (.slice xa71 (it.2.take 32).length xc72)]) (ex_load rfl (loadN (cs := [(.slice xa68 (keyL it.1).length xc69), (.slice xa71 (it.2.take 32).length xc72)]) Tryd.underlying38 rfl (size_38) (St.range S251 (i := 0) rfl 0 [(.slice xa68 (keyL it.1).length xc69), (.slice xa71 (it.2.take 32).length xc72)] (sub_range 0 rfl)))) ?_
     simp only [pS, pN, pA, pC, pZ]
     refine stNew S251 (v := fun n => .slice (some ⟨n, 0, none⟩) 1 1) rfl (ex_lit (ps := #[(0, (.agg #[(.slice xa68 (keyL it.1).length xc69), (.slice xa71 (it.2.take 32).length xc72)]))]) (cells := #[(.slice xa68 (keyL it.1).length xc69), (.slice xa71 (it.2.take 32).length xc72)]) (E := 38) (bmap1 rfl) (fun w => by kernel_rfl)) (fun n254 w255 S256 => ?_)
     simp only [pS, pN, pA, pC, pZ]
     have S256 : St w F w255 F65 [⟨n254, [(.slice xa68 (keyL it.1).length xc69), (.slice xa71 (it.2.take 32).length xc72)], 38⟩, ⟨n57, [(.slice xa68 (keyL it.1).length xc69), (.slice xa71 (it.2.take 32).length xc72)], 38⟩] [ownP 2 PrC PrC.mono 38 w.heap.size v249 ([] ++ ((pairsN l i).take k)), ownP 2 PrC PrC.mono 38 w.heap.size (.slice a30 (pairsN l i).length cap31) (pairsN l i)] := S256
     refine stPush (i := 0) (r := 0) (p := (keyL it.1, it.2.take 32)) (cs := [(.slice xa68 (keyL it.1).length xc69), (.slice xa71 (it.2.take 32).length xc72)]) S256 rfl i38 (.agg #[(.slice none 0 0), (.slice none 0 0)]) 48 Tryd.underlying40 hi38 hz38 hs38 hb38 rfl (by decide) rfl rfl rfl rfl rfl (PrC.oneCell (p := (keyL it.1, it.2.take 32)) ⟨_, _, rfl, r70, r73⟩) (⟨_, _, rfl, r70, r73⟩) (Nat.le_refl _) S256.gr.below.size (by unfold maxLen; simp only [List.length_append, List.length_take, List.length_nil]; omega) (by simp only [List.length_append, List.length_take, List.length_nil]; omega) ?_
     intro v257 w258 S259 hn260
     simp only [pS, pN, pA, pC, pZ]
     have S259 := St.drop S259 (L' := [⟨n57, [(.slice xa68 (keyL it.1).length xc69), (.slice xa71 (it.2.take 32).length xc72)], 38⟩]) (.cons _ (List.Sublist.refl _))
     have S259 : St w F w258 F65 [⟨n57, [(.slice xa68 (keyL it.1).length xc69), (.slice xa71 (it.2.take 32).length xc72)], 38⟩] [ownP 2 PrC PrC.mono 38 w.heap.size v257 (([] ++ ((pairsN l i).take k)) ++ [(keyL it.1, it.2.take 32)]), ownP 2 PrC PrC.mono 38 w.heap.size (.slice a30 (pairsN l i).length cap31) (pairsN l i)] := S259
     refine do_ rfl v257 (ex_assign _) ?_
     simp only [pS, pN, pA, pC, pZ]
     refine wl_nil (hK253 _ _ ?_)
     refine region_wl ?_
     refine do_ rfl v257 (ex_move _) ?_
     simp only [pS, pN, pA, pC, pZ]
     refine do_ rfl (.slice a30 (pairsN l i).length cap31) (ex_move _) ?_
     simp only [pS, pN, pA, pC, pZ]
     refine do_ rfl (.int .i64 ((k : Nat) : Int)) (ex_move _) ?_
     simp only [pS, pN, pA, pC, pZ]
     refine do_ rfl (.slice (if cap31 = k then a30 else a30.map (·.add (k * 2))) ((pairsN l i).length - k) (cap31 - k)) (ex_slice (l := k) (h := (pairsN l i).length) (sz := 2) Tryd.underlying40 rfl (sizeof_38 _) (.inr ⟨_, rfl, rfl⟩) (.inl ⟨rfl, rfl⟩) (by omega) (by omega) (rfl)) ?_
     simp only [pS, pN, pA, pC, pZ]
     refine stAppendS (r := 0) (u := (.slice (if cap31 = k then a30 else a30.map (·.add (k * 2))) ((pairsN l i).length - k) (cap31 - k))) S259 rfl i38 (.agg #[(.slice none 0 0), (.slice none 0 0)]) 48 Tryd.underlying40 hi38 hz38 hs38 hb38 rfl (by decide) rfl rfl rfl (((S259.own (i := 1) rfl).toW).dropN (m := k) (by omega)) (fun F cs p h => PrC.one F cs p h) (Nat.le_refl _) S259.gr.below.size (by unfold maxLen; simp only [List.length_append, List.length_take, List.length_drop, List.length_nil, List.length_cons]; omega) (by simp only [List.length_append, List.length_take, List.length_drop, List.length_nil, List.length_cons]; omega) ?_
     intro v261 w262 S263 hn264
     simp only [pS, pN, pA, pC, pZ]
     have S263 : St w F w262 F65 [⟨n57, [(.slice xa68 (keyL it.1).length xc69), (.slice xa71 (it.2.take 32).length xc72)], 38⟩] [ownP 2 PrC PrC.mono 38 w.heap.size v261 ((([] ++ ((pairsN l i).take k)) ++ [(keyL it.1, it.2.take 32)]) ++ ((pairsN l i).drop k)), ownP 2 PrC PrC.mono 38 w.heap.size (.slice a30 (pairsN l i).length cap31) (pairsN l i)] := S263
     refine do_ rfl v261 (ex_assign _) ?_
     simp only [pS, pN, pA, pC, pZ]
     refine wl_nil (hK17 _ _ ?_)
     have S265 := St.dropRow S263 (M' := [ownP 2 PrC PrC.mono 38 w.heap.size v261 ((([] ++ ((pairsN l i).take k)) ++ [(keyL it.1, it.2.take 32)]) ++ ((pairsN l i).drop k))]) (.cons_cons _ (.cons _ (List.Sublist.refl _)))
     rw [putT_new (by rw [hhas]; simp), hpos] at hnew
     have hl3 : (([] ++ (pairsN l i).take k) ++ [(keyL it.1, it.2.take 32)]) ++ (pairsN l i).drop k = (pairsN l i).take k ++ (keyL it.1, it.2.take 32) :: (pairsN l i).drop k := by simp
     rw [hl3] at S265
     refine region_wl ?_
     refine do_ rfl (.int .i64 ((i : Nat) : Int)) (ex_move _) ?_
     simp only [pS, pN, pA, pC, pZ]
     refine do_ rfl (.int .i64 (((i + 1) : Nat) : Int)) (ex_add (m := ((i : Nat) : Int)) (n := (1 : Int)) (r := (((i + 1) : Nat) : Int)) rfl rfl (by omega) (by omega) (by omega)) ?_
     simp only [pS, pN, pA, pC, pZ]
     refine do_ rfl (.int .i64 (((i + 1) : Nat) : Int)) (ex_assign _) ?_
     simp only [pS, pN, pA, pC, pZ]
     refine wl_nil ?_
     have S265 := St.drop S265 (L' := []) (.cons _ (List.Sublist.refl _))
     rw [← hnew] at S265
     exact hK14 _ _ _ (by omega) ⟨(i + 1), v261, F65, (slotF [(.slice a l.length c), (.int .i64 ((m : Nat) : Int)), undef, undef, (.slice none 0 0), v261, (.int .i64 (((i + 1) : Nat) : Int)), (.pointer (some ⟨n57, 0, none⟩)), (.int .i64 ((k : Nat) : Int)), v257, (.int .i64 ((i : Nat) : Int)), (.slice a l.length c), (.int .i64 ((l.length : Nat) : Int)), (.bool true), (.bool true), (.int .i64 ((i : Nat) : Int)), (.int .i64 ((m : Nat) : Int)), (.bool true), (.bool true), (.int .i64 ((i : Nat) : Int)), (.int .i64 (((i + 1) : Nat) : Int)), (.slice a l.length c), (.int .i64 ((i : Nat) : Int)), (.pointer (some ⟨b19, o20 + i * 2, none⟩)), (.pointer (some ⟨b19, o20 + i * 2, none⟩)), (.slice xa23 it.1.length xc24), v35, (.slice a l.length c), (.int .i64 ((i : Nat) : Int)), (.pointer (some ⟨b19, o20 + i * 2, none⟩)), (.pointer (some ⟨b19, o20 + i * 2 + 1, none⟩)), (.slice xa27 it.2.length xc28), v36, (.agg #[(.slice xa68 (keyL it.1).length xc69), (.slice xa71 (it.2.take 32).length xc72)]), (.int .i64 ((k : Nat) : Int)), (.slice a30 (pairsN l i).length cap31), (.int .i64 (((pairsN l i).length : Nat) : Int)), (.bool false), (.bool false), undef, undef, undef, undef, undef, undef, undef, undef, undef, undef, (.bool false), (u78 50), (u78 51), (.int .i64 ((k : Nat) : Int)), (.slice a30 (pairsN l i).length cap31), (.int .i64 (((pairsN l i).length : Nat) : Int)), (.bool false), (.bool false), undef, undef, undef, undef, undef, undef, undef, undef, (.bool false), (u7 66), (u7 67), (u7 68), (u7 69), (.slice none 0 0), (.slice a30 (pairsN l i).length cap31), (.int .i64 ((k : Nat) : Int)), (.slice a30 k cap31), v249, v249, (.agg #[(.slice xa68 (keyL it.1).length xc69), (.slice xa71 (it.2.take 32).length xc72)]), (.slice (some ⟨n254, 0, none⟩) 1 1), v257, v257, (.slice a30 (pairsN l i).length cap31), (.int .i64 ((k : Nat) : Int)), (.slice (if cap31 = k then a30 else a30.map (·.add (k * 2))) ((pairsN l i).length - k) (cap31 - k)), v261, undef]), rfl, rfl, S265, (le13.trans le66), (by omega), (by omega)⟩
  ·refine do_ rfl (.bool false) (ex_lss (m := ((i : Nat) : Int)) (n := ((m : Nat) : Int)) (b := false) rfl rfl (decide_eq_false (by omega))) ?_
   simp only [pS, pN, pA, pC, pZ]
   refine do_ rfl (.bool false) (ex_pick (b := true) rfl) ?_
   simp only [pS, pN, pA, pC, pZ]
   refine wl_nil (hK16 _ _ ?_)
   refine wp_cond_false rfl ?_
   refine wp_exit ?_
   refine hK3 _ _ ?_
   refine wp_seq_k (fun K267 hK267 => region_wl ?_)
   refine do_ rfl v (ex_move _) ?_
   simp only [pS, pN, pA, pC, pZ]
   refine do_ rfl v (ex_assign _) ?_
   simp only [pS, pN, pA, pC, pZ]
   refine wl_nil (hK267 _ _ ?_)
   refine wp_ret ?_
   (try simp only [Exit.then, Exit.inBlock, ↓reduceIte, Nat.reduceEqDiff])
   refine bodyPost_ret (v := v) ?_ rfl ?_
   ·exact res_t rfl rfl
   ·have hend : pairsN l i = pairsN l m := by first | exact pairsN_end (by omega) him | exact congrArg _ (by omega)
    rw [← hend]
    exact ⟨_, _, rfl, S12.gr, St.own (i := 0) S12 rfl⟩
 ·refine do_ rfl (.bool false) (ex_lss (m := ((i : Nat) : Int)) (n := ((l.length : Nat) : Int)) (b := false) rfl rfl (decide_eq_false (by omega))) ?_
  simp only [pS, pN, pA, pC, pZ]
  refine do_ rfl (.bool false) (ex_move _) ?_
  simp only [pS, pN, pA, pC, pZ]
  refine doN (wanted_no rfl rfl rfl (c := false) rfl (by decide)) ?_
  simp only [pS, pN, pA, pC, pZ]
  refine doN (wanted_no rfl rfl rfl (c := false) rfl (by decide)) ?_
  simp only [pS, pN, pA, pC, pZ]
  refine doN (wanted_no rfl rfl rfl (c := false) rfl (by decide)) ?_
  simp only [pS, pN, pA, pC, pZ]
  refine do_ rfl (.bool false) (ex_pick (b := false) rfl) ?_
  simp only [pS, pN, pA, pC, pZ]
  refine wl_nil (hK16 _ _ ?_)
  refine wp_cond_false rfl ?_
  refine wp_exit ?_
  refine hK3 _ _ ?_
  refine wp_seq_k (fun K268 hK268 => region_wl ?_)
  refine do_ rfl v (ex_move _) ?_
  simp only [pS, pN, pA, pC, pZ]
  refine do_ rfl v (ex_assign _) ?_
  simp only [pS, pN, pA, pC, pZ]
  refine wl_nil (hK268 _ _ ?_)
  refine wp_ret ?_
  (try simp only [Exit.then, Exit.inBlock, ↓reduceIte, Nat.reduceEqDiff])
  refine bodyPost_ret (v := v) ?_ rfl ?_
  ·exact res_t rfl rfl
  ·have hend : pairsN l i = pairsN l m := by first | exact pairsN_end (by omega) him | exact congrArg _ (by omega)
   rw [← hend]
   exact ⟨_, _, rfl, S12.gr, St.own (i := 0) S12 rfl⟩
end Go.Proofs.YtcanckliggcllaaDoor
namespace Go.Proofs.YtcanckliggcllaaDoor
open Go.RowKit
set_option maxRecDepth 100000
set_option linter.unusedVariables false
set_option linter.unusedSimpArgs false
theorem getIs_spec (F : Fz) (w : World) (v u : Value) (l : List Pr) (k : By) {o : Option By} (hs : Sat w F) (hv : Prs F v l) (hu : Bs F u k) (ok : TreeOk 60 l) (hk : 1 ≤ k.length ∧ k.length ≤ 16) (h : getT l k = o) :
    Calls Tryd.prog 33 #[v, u] w (Gives w F (GetR o 0)) := by
  subst h; exact get_spec F w v u l k hs hv hu ok hk.1 hk.2
theorem treeCheckOk_spec (F : Fz) (w : World) (v : Value) (l : List Pr) (hs : Sat w F) (hv : Prs F v l) (ok : TreeOk 60 l) :
    Calls Tryd.prog 26 #[v] w (Tells w (.int .i64 0)) := by
  have := treeCheck_spec F w v l hs hv
  rwa [treeE_ok.2 ok] at this
end Go.Proofs.YtcanckliggcllaaDoor
namespace Go.Proofs.YtcanckliggcllaaDoor
open Go.RowKit
set_option linter.unusedVariables false
section
variable {α β : Type} {k k2 E E2 base base2 : Nat} {R : Fz → List Value → α → Prop} {R2 : Fz → List Value → β → Prop} {w0 W w w' : World} {F0 F F' : Fz} {L : List Blk} {M : List RowP} {v v2 : Value} {l : List α} {l2 : List β}
/-- What a call has made that is a row of its own. -/
def MadeO {α : Type} (W : World) (F : Fz) (k : Nat) (R : Fz → List Value → α → Prop) (E : Nat) (l : List α) (v : Value) (w : World) : Prop := ∃ F', Gr W F w F' ∧ Own k R E W.heap.size w F' v l
theorem MadeO.stable (hR : ∀ F F' x p, Le F F' → R F x p → R F' x p) (W : World) (F : Fz) (k E : Nat) (l : List α) : Stable (MadeO W F k R E l) :=
  fun v w w' ⟨F', g, h⟩ hb => ⟨F', g.trans (Gr.of_below g.sat hb), h.gr hR g.sat (Gr.of_below g.sat hb)⟩
/-- A block that lies beside what a call has made as a row. -/
theorem Own.dropF (h : Own k R E base w F v l) {n : Nat} (hx : ∀ cs p, R F cs p → R (Proofs.YtcanckliggcllaaDoor.dropF F n) cs p) : Own k R E base w (Proofs.YtcanckliggcllaaDoor.dropF F n) v l := by
  obtain ⟨el, h1, h2, h3⟩ := h.ex
  refine ⟨⟨el, h1, h2.imp hx, h3⟩, fun g hg => ?_⟩
  unfold Proofs.YtcanckliggcllaaDoor.dropF
  split
  · rfl
  · exact h.out g hg
end
section
variable {w : World} {F : Fz} {n : Nat} {cs : List Value} {T : TypeId}
theorem WrC.dropF (hs : Sat w F) (hb : w.heap[n]? = some (.cells cs.toArray T (0, 0))) (hc : ∀ u ∈ cs, ∀ x, u ≠ bv x) (c : List Value) (p : Wr) (h : WrC F c p) : WrC (Proofs.YtcanckliggcllaaDoor.dropF F n) c p := by
  obtain ⟨a0, a1, a2, a3, rfl, h0, h1, h2, h3⟩ := h
  exact ⟨a0, a1, a2, a3, rfl, h0.dropF hs hb hc, h1.dropF hs hb hc, h2, h3.dropF hs hb hc⟩
theorem RdC.dropF (hs : Sat w F) (hb : w.heap[n]? = some (.cells cs.toArray T (0, 0))) (hc : ∀ u ∈ cs, ∀ x, u ≠ bv x) (c : List Value) (p : Rd) (h : RdC F c p) : RdC (Proofs.YtcanckliggcllaaDoor.dropF F n) c p := by
  obtain ⟨a0, a1, a2, a3, rfl, h0, h1, h2, h3⟩ := h
  exact ⟨a0, a1, a2, a3, rfl, h0.dropF hs hb hc, h1.dropF hs hb hc, h2, h3.dropF hs hb hc⟩
end
theorem FactsAt.getR {md : Region.Mode} {ops : Array Oper} {W : World} {F : Fz} {L : List (Nat × Mark)} {Vs : Vals} {w : World} {j : Nat} (h : FactsAt md ops (specOf W F L) j Vs w) (i : Nat) {v : Value} {R : Value → World → Prop} (ha : ancB md ops ops.size j i = true) (hv : Vs i = some v) (hL : specOf W F L i = .rel R) : R v w := by
  have := h i v ha hv
  rw [hL] at this
  exact this
theorem gives_of_own {P : Program} {f : FuncId} {vs : Array Value} {α : Type} {k E : Nat} {R : Fz → List Value → α → Prop} (hR : ∀ F F' x p, Le F F' → R F x p → R F' x p) {w : World} {F : Fz} {l : List α} (h : Calls P f vs w (GivesO w F k R E l)) : Calls P f vs w (Gives w F fun F' u => Sl k R F' u l) :=
  h.mono fun e w' ⟨v, F', he, g, ho⟩ => by
    obtain ⟨F2, g2, _, h2⟩ := ho.freeze hR g (Nat.le_refl _)
    exact ⟨v, F2, he, g2, h2⟩
end Go.Proofs.YtcanckliggcllaaDoor
namespace Go.Proofs.YtcanckliggcllaaDoor
open Go.RowKit
set_option linter.unusedVariables false
section
variable {P : Program} {ops : Array Oper} {md : Region.Mode} {C : World → Prop} {Sp : Nat → OpSpec}
/-- The walk in an order of our own. -/
def wpGP (P : Program) (md : Region.Mode) (ops : Array Oper) (C : World → Prop) (Sp : Nat → OpSpec) (Lq : Act → Vals → Prop) : List (Nat × Oper) → Act → Vals → Prop
  | [], a, Vs => Lq a Vs
  | (k, o) :: l, a, Vs => if Region.wanted o (yielded ops a.tmps) = true then ∃ S, Ob P md ops C Sp k o a Vs S ∧ ∀ v, S v → wpGP P md ops C Sp Lq l (a.put o.dst v) (next (Sp k) Vs k v) else wpGP P md ops C Sp Lq l (a.put o.dst undef) Vs
def seqL (md : Region.Mode) (ops : Array Oper) : List Nat → Array Bool → Bool
  | [], listed => (Region.ready md ops listed).isEmpty
  | k :: ks, listed => decide (Region.ready md ops listed = [k]) && seqL md ops ks (listed.setIfInBounds k true)
theorem seqL_ready {T : List Nat} {listed : Array Bool} (h : seqL md ops T listed = true) : ∀ j ∈ Region.ready md ops listed, j ∈ T := by
  cases T with
  | nil => intro j hj; simp only [seqL, List.isEmpty_iff] at h; rw [h] at hj; cases hj
  | cons t T =>
    intro j hj
    simp only [seqL, Bool.and_eq_true, decide_eq_true_eq] at h
    rw [h.1] at hj
    have : j = t := by simpa using hj
    subst this
    exact List.mem_cons_self ..
theorem wpAny_of_seqL {Q' : Exit → Act → World → Prop} : ∀ (l : List (Nat × Oper)) (listed : Array Bool) (a : Act) (w : World), (∀ p ∈ l, ops[p.1]? = some p.2) →
    seqL md ops (l.map (·.1)) listed = true → wpList P ops Q' (l.map (·.2)) a w → wpAny P md ops Q' l.length listed a w
  | [], _, _, _, _, hB, h => ⟨by simpa [seqL] using hB, h⟩
  | (k, o) :: l, listed, a, w, hl, hB, h => by
    have h0 : ops[k]? = some o := hl (k, o) (List.mem_cons_self ..)
    simp only [List.map_cons, seqL, Bool.and_eq_true, decide_eq_true_eq] at hB
    refine ⟨fun h1 => (by rw [hB.1] at h1; cases h1), fun i hi => ?_⟩
    rw [hB.1] at hi
    have hik : i = k := by simpa using hi
    subst hik
    have hw : wpOp P ops Q' i (wpList P ops Q' (l.map (·.2))) a w := by unfold wpOp; simp only [h0]; exact h
    exact wpOp_mono (fun a' w' h' => wpAny_of_seqL l _ a' w' (fun p hp => hl p (List.mem_cons_of_mem _ hp)) hB.2 h') hw
end
def opsAt (l : List Oper) : List Nat → List (Nat × Oper)
  | [] => []
  | k :: ks => match l[k]? with
    | some o => (k, o) :: opsAt l ks
    | none => opsAt l ks
theorem opsAt_at {l : List Oper} : ∀ {ks : List Nat} {p : Nat × Oper}, p ∈ opsAt l ks → l.toArray[p.1]? = some p.2
  | [], p, h => by cases h
  | k :: ks, p, h => by
    unfold opsAt at h
    split at h
    · rename_i o ho
      rcases List.mem_cons.1 h with rfl | h
      · simpa using ho
      · exact opsAt_at h
    · exact opsAt_at h
structure GP (P : Program) (md : Region.Mode) (ops : Array Oper) (C : World → Prop) (Sp : Nat → OpSpec) (Lq : Act → Vals → Prop) (l : List (Nat × Oper)) (a : Act) (Vs : Vals) : Prop where
  out : wpGP P md ops C Sp Lq l a Vs
section
variable {P : Program} {ops : Array Oper} {md : Region.Mode} {C : World → Prop} {Sp : Nat → OpSpec} {Lq : Act → Vals → Prop} {o : Oper} {l : List (Nat × Oper)} {k : Nat} {a : Act} {Vs : Vals}
theorem gp_nil (h : Lq a Vs) : GP P md ops C Sp Lq [] a Vs := ⟨h⟩
theorem gp_pure (hw : Region.wanted o (yielded ops a.tmps) = true) (hs : Sp k = .pure) (v : Value) (h : ∀ w, C w → PureAt P o a w v) (hn : GP P md ops C Sp Lq l (a.put o.dst v) Vs) : GP P md ops C Sp Lq ((k, o) :: l) a Vs := by
  refine ⟨?_⟩
  unfold wpGP
  rw [if_pos hw]
  refine ⟨fun u => u = v, by unfold Ob; rw [hs]; exact ⟨v, rfl, h⟩, fun u hu => ?_⟩
  subst hu
  rw [hs]
  exact hn.out
theorem gp_const (hw : Region.wanted o (yielded ops a.tmps) = true) {v : Value} (hs : Sp k = .const v) (h : ∀ w, C w → FactsAt md ops Sp k Vs w → Does P o a w (IsPost v w)) (hn : GP P md ops C Sp Lq l (a.put o.dst v) Vs) : GP P md ops C Sp Lq ((k, o) :: l) a Vs := by
  refine ⟨?_⟩
  unfold wpGP
  rw [if_pos hw]
  refine ⟨fun u => u = v, by unfold Ob; rw [hs]; exact ⟨rfl, h⟩, fun u hu => ?_⟩
  subst hu
  rw [hs]
  exact hn.out
theorem gp_rel (hw : Region.wanted o (yielded ops a.tmps) = true) {R : Value → World → Prop} (hs : Sp k = .rel R) (h : ∀ w, C w → FactsAt md ops Sp k Vs w → Does P o a w (RelPost R w)) (hn : ∀ v, GP P md ops C Sp Lq l (a.put o.dst v) (upd Vs k v)) : GP P md ops C Sp Lq ((k, o) :: l) a Vs := by
  refine ⟨?_⟩
  unfold wpGP
  rw [if_pos hw]
  refine ⟨fun _ => True, by unfold Ob; rw [hs]; exact ⟨rfl, h⟩, fun u _ => ?_⟩
  rw [hs]
  exact (hn u).out
end
/-! Late. -/
/-- The store, behind which nothing of the region is left to look at the memory. -/
structure LT (P : Program) (ops : Array Oper) (Q : Exit → Act → World → Prop) (os : Oper) (rest : List Oper) (a : Act) (w : World) : Prop where
  out : ∃ w', os.guard = none ∧ os.dst = none ∧ (execOp a.eval os).run P w = .ok .skip w' ∧ wpList P ops Q rest a w'
section
variable {P : Program} {ops : Array Oper} {md : Region.Mode} {C : World → Prop} {Sp : Nat → OpSpec}
def wpAnyH (P : Program) (md : Region.Mode) (ops : Array Oper) (C : World → Prop) (Sp : Nat → OpSpec) (s : Nat) (L E : Array Bool → Act → Vals → Prop) : Nat → Array Bool → Act → Vals → Prop
  | 0, listed, a, Vs => L listed a Vs
  | f + 1, listed, a, Vs => Region.ready md ops listed ≠ [] ∧ ∀ i ∈ Region.ready md ops listed, (i ≠ s → gOp P md ops C Sp i (wpAnyH P md ops C Sp s L E f (listed.setIfInBounds i true)) a Vs) ∧ (i = s → f = 0 ∧ E listed a Vs)
theorem wpAnyH_first (hC : ∃ w, C w) {i s : Nat} {oi : Oper} {T : List Nat} {L E : Array Bool → Act → Vals → Prop} (hi : ops[i]? = some oi) (hsel : ∀ (j : Nat) (o : Oper) cs b, ops[j]? = some o → o.op ≠ .select cs b)
    (hdone : ∀ listed a Vs, L listed a Vs → ∀ j ∈ Region.ready md ops listed, j ∈ T) (hT : ∀ t ∈ T, ancB md ops ops.size t i = true) (hsT : s ∈ T) (his : i ≠ s) :
    ∀ (f : Nat) (listed : Array Bool) (a : Act) (Vs : Vals), HeadInv md ops ops.size listed →
      (∀ j oj, ops[j]? = some oj → j ≠ i → listed.getD j true = false → (∀ e ∈ oj.after, Region.binds md e = true → e.on ≠ i) → oi.apart ops oj = true) →
      i ∈ Region.ready md ops listed →
      gOp P md ops C Sp i (wpAnyH P md ops C Sp s L E f (listed.setIfInBounds i true)) a Vs → wpAnyH P md ops C Sp s L E (f + 1) listed a Vs := by
  intro f
  induction f with
  | zero =>
    intro listed a Vs inv _ hr H
    have hun := (mem_ready.1 hr).1
    refine ⟨fun h => (by rw [h] at hr; cases hr), fun j hj => ?_⟩
    by_cases hji : j = i
    · subst hji; exact ⟨fun _ => H, fun e => absurd e his⟩
    · obtain ⟨a', Vs', hL⟩ := gOp_some H
      have h1 := hdone _ _ _ hL j (ready_mono hj hji)
      have h2 := anc_ready inv hj _ _ (hT j h1)
      rw [getD_both hun] at h2
      cases h2
  | succ f ih =>
    intro listed a Vs inv hfree hr H
    have hun := (mem_ready.1 hr).1
    refine ⟨fun h => (by rw [h] at hr; cases hr), fun j hj => ?_⟩
    obtain ⟨hjun, oj, hoj, hall⟩ := mem_ready.1 hj
    have hjn : j < ops.size := (Array.getElem?_eq_some_iff.1 hoj).1
    by_cases hji : j = i
    · subst hji; exact ⟨fun _ => H, fun e => absurd e his⟩
    · by_cases hjs : j = s
      · subst hjs
        have h2 := anc_ready inv hj _ _ (hT j hsT)
        rw [getD_both hun] at h2
        cases h2
      · refine ⟨fun _ => ?_, fun e => absurd e hjs⟩
        have hnot : ∀ e ∈ oj.after, Region.binds md e = true → e.on ≠ i := fun e he hb heq => by
          have h1 := hall e he hb
          rw [heq, getD_both hun] at h1
          cases h1
        have a1 : ancB md ops ops.size j i = false := by
          cases hx : ancB md ops ops.size j i with
          | false => rfl
          | true => have := anc_ready inv hj _ _ hx; rw [getD_both hun] at this; cases this
        have a2 : ancB md ops ops.size i j = false := by
          cases hx : ancB md ops ops.size i j with
          | false => rfl
          | true => have := anc_ready inv hr _ _ hx; rw [getD_both hjun] at this; cases this
        have H1 : gOp P md ops C Sp i (gOp P md ops C Sp j (wpAnyH P md ops C Sp s L E f ((listed.setIfInBounds i true).setIfInBounds j true))) a Vs :=
          gOp_mono (fun a' Vs' h => (h.2 j (ready_mono hj hji)).1 hjs) H
        have H2 := gOp_swap hC hi hoj (Ne.symm hji) (hfree j oj hoj hji hjun hnot) (fun cs b => hsel i oi cs b hi) (fun cs b => hsel j oj cs b hoj) a1 a2 H1
        have hfree' : ∀ k ok, ops[k]? = some ok → k ≠ i → (listed.setIfInBounds j true).getD k true = false →
            (∀ e ∈ ok.after, Region.binds md e = true → e.on ≠ i) → oi.apart ops ok = true := fun k ok hk hki hun' hno => by
          refine hfree k ok hk hki ?_ hno
          by_cases hjk : j = k
          · subst hjk; exact hjun
          · rw [getD_set_ne true hjk] at hun'; exact hun'
        refine gOp_mono (fun a' Vs' h3 => ih (listed.setIfInBounds j true) a' Vs' (inv.set hj hjn) hfree' (ready_mono hr (Ne.symm hji)) ?_) H2
        rw [Array.setIfInBounds_comm _ _ hji]
        exact h3
/-- What is left when only the pure operation p, the store s and the tail are. -/
def LateD (P : Program) (md : Region.Mode) (ops : Array Oper) (Q : Exit → Act → World → Prop) (C : World → Prop) (Sp : Nat → OpSpec) (p : Nat) (op os : Oper) (tail : List Oper) (a : Act) (Vs : Vals) : Prop :=
  op.guard = none ∧ ∃ v, Sp p = .const v ∧ (∀ w, C w → FactsAt md ops Sp p Vs w → ∀ w1, PureAt P op a w1 v) ∧ ∀ w, C w → Facts Sp Vs w → LT P ops Q os tail (a.put op.dst v) w
def lateL (md : Region.Mode) (ops : Array Oper) (p s : Nat) (T : List Nat) (listed : Array Bool) : Bool :=
  ((Region.ready md ops listed).all fun j => j == p || j == s) && (Region.ready md ops listed).contains p && Region.free md ops listed p && seqL md ops (s :: T) (listed.setIfInBounds p true) && seqL md ops (p :: T) (listed.setIfInBounds s true)
def headH (md : Region.Mode) (ops : Array Oper) (p s : Nat) (T : List Nat) : List Nat → Array Bool → Bool
  | [], listed => lateL md ops p s T listed
  | k :: ks, listed => (Region.ready md ops listed).contains k && Region.free md ops listed k && headH md ops p s T ks (listed.setIfInBounds k true)
theorem does_of_pure {o : Oper} {a : Act} {w : World} {v : Value} (h : PureAt P o a w v) : Does P o a w (IsPost v w) := by
  unfold Does PureAt at *
  generalize (execOp a.eval o).run P w = r at *
  cases r with
  | ok n w' =>
    cases n <;> simp only [PureR] at h <;> simp only [DoesR]
    · obtain ⟨rfl, rfl⟩ := h; exact ⟨rfl, Below.refl _ _⟩
    · obtain ⟨rfl, rfl⟩ := h; exact ⟨rfl, Below.refl _ _⟩
  | halt x w' => simp only [PureR] at h
theorem wanted_free {o : Oper} {t : Array Value} (h : o.guard = none) : Region.wanted o (yielded ops t) = true := by unfold Region.wanted; rw [h]
theorem wpAnyH_list (hC : ∃ w, C w) {p s : Nat} {T : List Nat} {op os : Oper} {tail : List Oper} {Q : Exit → Act → World → Prop} (hp : ops[p]? = some op) (hps : p ≠ s) (hsel : Region.noSelect ops = true) :
    ∀ (l : List (Nat × Oper)) (listed : Array Bool) (a : Act) (Vs : Vals), (∀ q ∈ l, ops[q.1]? = some q.2) → (∀ t ∈ s :: T, ∀ q ∈ l, ancB md ops ops.size t q.1 = true) → (∀ q ∈ l, q.1 ≠ s) → HeadInv md ops ops.size listed →
    headH md ops p s T (l.map (·.1)) listed = true → wpGP P md ops C Sp (LateD P md ops Q C Sp p op os tail) l a Vs →
    wpAnyH P md ops C Sp s (fun listed' a' Vs' => seqL md ops (s :: T) listed' = true ∧ ∀ w, C w → Facts Sp Vs' w → LT P ops Q os tail a' w) (fun listed' a' Vs' => lateL md ops p s T listed' = true ∧ LateD P md ops Q C Sp p op os tail a' Vs') (l.length + 1) listed a Vs
  | [], listed, a, Vs, _, _, _, _, hB, h => by
    have hB0 := hB
    simp only [List.map_nil, headH, lateL, Bool.and_eq_true] at hB
    obtain ⟨⟨⟨⟨h1, h2⟩, h3⟩, h4⟩, h5⟩ := hB
    have hr : p ∈ Region.ready md ops listed := by simpa using h2
    refine ⟨fun e => (by rw [e] at hr; cases hr), fun j hj => ⟨fun hjs => ?_, fun e => ⟨rfl, hB0, h⟩⟩⟩
    have hj2 := List.all_eq_true.1 h1 j hj
    simp only [Bool.or_eq_true, beq_iff_eq] at hj2
    have hjp : j = p := hj2.resolve_right hjs
    subst hjp
    obtain ⟨hg, v, hs, hpu, hn⟩ := h
    unfold gOp
    simp only [hp]
    rw [if_pos (wanted_free hg)]
    refine ⟨fun u => u = v, ?_, fun u hu => ?_⟩
    · unfold Ob; rw [hs]; exact ⟨rfl, fun w hc hF => does_of_pure (hpu w hc hF w)⟩
    · subst hu
      rw [hs]
      exact ⟨h4, hn⟩
  | (k, o) :: l, listed, a, Vs, hl, hT, hns, inv, hB, h => by
    have h0 : ops[k]? = some o := hl (k, o) (List.mem_cons_self ..)
    have hkn : k < ops.size := (Array.getElem?_eq_some_iff.1 h0).1
    simp only [List.map_cons, headH, Bool.and_eq_true] at hB
    obtain ⟨⟨hr, hf⟩, hB'⟩ := hB
    have hr' : k ∈ Region.ready md ops listed := by simpa using hr
    have hg : gOp P md ops C Sp k (wpGP P md ops C Sp (LateD P md ops Q C Sp p op os tail) l) a Vs := by unfold gOp; simp only [h0]; exact h
    exact wpAnyH_first hC h0 (Region.noSelect_spec hsel) (fun listed' a' Vs' hL => seqL_ready hL.1) (fun t ht => hT t ht (k, o) (List.mem_cons_self ..)) (List.mem_cons_self ..) (hns (k, o) (List.mem_cons_self ..)) (l.length + 1) listed a Vs inv (Region.free_spec h0 hf) hr'
      (gOp_mono (fun a' Vs' h' => wpAnyH_list hC hp hps hsel l _ a' Vs' (fun p hp => hl p (List.mem_cons_of_mem _ hp)) (fun t ht p hp => hT t ht p (List.mem_cons_of_mem _ hp)) (fun q hq => hns q (List.mem_cons_of_mem _ hq)) (inv.set hr' hkn) hB' h') hg)
theorem wpAny_of_H (hst : ∀ i v w w', factOf (Sp i) v w → Below w.heap.size w w' → factOf (Sp i) v w') (hCE : ∀ w w', C w → Below w.heap.size w w' → C w') {s g : Nat} {L E : Array Bool → Act → Vals → Prop} {Q' : Exit → Act → World → Prop}
    (hL : ∀ listed a Vs w, C w → Facts Sp Vs w → L listed a Vs → wpAny P md ops Q' g listed a w)
    (hE : ∀ listed a Vs w, C w → Facts Sp Vs w → s ∈ Region.ready md ops listed → E listed a Vs → wpOp P ops Q' s (wpAny P md ops Q' g (listed.setIfInBounds s true)) a w) :
    ∀ (f : Nat) (listed : Array Bool) (a : Act) (Vs : Vals) (w : World), C w → Facts Sp Vs w → wpAnyH P md ops C Sp s L E f listed a Vs → wpAny P md ops Q' (f + g) listed a w
  | 0, listed, a, Vs, w, hc, hF, h => by rw [Nat.zero_add]; exact hL _ _ _ _ hc hF h
  | f + 1, listed, a, Vs, w, hc, hF, h => by
    rw [show f + 1 + g = (f + g) + 1 by omega]
    refine ⟨fun h0 => absurd h0 h.1, fun i hi => ?_⟩
    by_cases his : i = s
    · subst his
      obtain ⟨hf0, he⟩ := (h.2 i hi).2 rfl
      subst hf0
      rw [Nat.zero_add]
      exact hE listed a Vs w hc hF hi he
    have hg := (h.2 i hi).1 his
    unfold gOp at hg
    unfold wpOp
    split
    · rename_i e
      simp only [e] at hg
      exact wpAny_of_H hst hCE hL hE f _ a Vs w hc hF hg
    · rename_i o e
      simp only [e] at hg
      split
      · rename_i hw
        rw [if_pos hw] at hg
        obtain ⟨S, hS, hall⟩ := hg
        left
        unfold Ob at hS
        split at hS
        · rename_i es
          obtain ⟨v, rfl, hp⟩ := hS
          have hn := hall v rfl
          simp only [es, next] at hn
          exact Oper.wp_of_pure (hp w hc) (wpAny_of_H hst hCE hL hE f _ _ Vs w hc hF hn)
        · rename_i v es
          obtain ⟨rfl, hp⟩ := hS
          have hn := hall v rfl
          simp only [es, next] at hn
          refine Oper.wp_of_does (hp w hc fun i' v' _ hv => hF i' v' hv) fun u w' ⟨hu, hb⟩ => ?_
          subst hu
          exact wpAny_of_H hst hCE hL hE f _ _ Vs w' (hCE w w' hc hb) (fun i' v' hv => hst i' v' w w' (hF i' v' hv) hb) hn
        · rename_i R es
          obtain ⟨rfl, hp⟩ := hS
          refine Oper.wp_of_does (hp w hc fun i' v' _ hv => hF i' v' hv) fun u w' ⟨hu, hb⟩ => ?_
          have hn := hall u trivial
          refine wpAny_of_H hst hCE hL hE f _ _ _ w' (hCE w w' hc hb) (fun i' v' hv => ?_) hn
          simp only [es, next] at hv
          unfold upd at hv
          split at hv
          · rename_i e'
            subst e'
            cases hv
            simp only [es, factOf]
            exact hu
          · exact hst i' v' w w' (hF i' v' hv) hb
      · rename_i hw
        rw [if_neg hw] at hg
        exact wpAny_of_H hst hCE hL hE f _ _ Vs w hc hF hg
theorem wpList_of_LT {Q : Exit → Act → World → Prop} {os : Oper} {tail : List Oper} {a : Act} {w : World} (h : LT P ops Q os tail a w) : wpList P ops Q (os :: tail) a w := by
  obtain ⟨w', hg, hd, hr, hk⟩ := h.out
  unfold wpList
  rw [if_pos (wanted_free hg)]
  left
  refine Oper.wp_of_does (Φ := fun u w1 => u = undef ∧ w1 = w') (by unfold Does; rw [hr]; exact ⟨rfl, rfl⟩) fun u w1 ⟨hu, hw⟩ => ?_
  subst hu; subst hw
  rw [hd]
  exact hk
end
/-- Is this an order of our own, with the pure operation p that may come behind the store s? -/
def lateB (md : Region.Mode) (ops : Array Oper) (hd : List Nat) (p s : Nat) (tl : List Nat) : Bool :=
  Region.noSelect ops && decide (hd.length + 2 + tl.length = ops.size) && headH md ops p s tl hd (Array.replicate ops.size false) && ((s :: tl).all fun t => hd.all fun i => ancB md ops ops.size t i) && (hd.all fun i => i != s) && (p != s)
theorem wp_region_late {P : Program} {id : Nat} {Q : Exit → Act → World → Prop} {a : Act} {w : World} {l : List Oper} (hd : List Nat) (p s : Nat) (tl : List Nat) (op os : Oper) (Sp : Nat → OpSpec) (hm : P.follows .mixedOrders = true) (hB : lateB .any l.toArray hd p s tl = true)
    (e1 : (opsAt l hd).map (·.1) = hd) (e2 : (opsAt l tl).map (·.1) = tl) (e3 : l[p]? = some op) (e4 : l[s]? = some os)
    (hst : ∀ i v w w', factOf (Sp i) v w → Below w.heap.size w w' → factOf (Sp i) v w')
    (h : wpGP P .any l.toArray (fun w' => Below w.heap.size w w') Sp (LateD P .any l.toArray Q (fun w' => Below w.heap.size w w') Sp p op os ((opsAt l tl).map (·.2))) (opsAt l hd) a (fun _ => none)) : (Code.region id l.toArray true).wp P Q a w := by
  simp only [lateB, Bool.and_eq_true, decide_eq_true_eq] at hB
  obtain ⟨⟨⟨⟨⟨hsel, hn⟩, hlex⟩, hanc⟩, hns⟩, hps⟩ := hB
  have hps : p ≠ s := by simpa using hps
  have hp : l.toArray[p]? = some op := by simpa using e3
  have hs : l.toArray[s]? = some os := by simpa using e4
  have inv0 : HeadInv .any l.toArray l.toArray.size (Array.replicate l.toArray.size false) :=
    ⟨by simp, fun j oj _ hl => (by rw [getD_replicate_false] at hl; cases hl), fun t h1 h2 => by omega⟩
  have mem : ∀ q ∈ opsAt l hd, q.1 ∈ hd := fun q hq => by rw [← e1]; exact List.mem_map.2 ⟨q, hq, rfl⟩
  have H := wpAnyH_list (md := .any) (T := tl) (Q := Q) ⟨w, Below.refl _ _⟩ hp hps hsel (opsAt l hd) _ a _ (fun p hp => opsAt_at hp) (fun t ht p hp => by
    have h1 := List.all_eq_true.1 hanc t ht
    exact List.all_eq_true.1 h1 p.1 (mem p hp)) (fun q hq => by have := List.all_eq_true.1 hns q.1 (mem q hq); simpa using this) inv0 (by rw [e1]; exact hlex) h
  refine wp_region_any hm ?_
  have hlh : (opsAt l hd).length = hd.length := by have := congrArg List.length e1; simpa using this
  have hlt : (opsAt l tl).length = tl.length := by have := congrArg List.length e2; simpa using this
  have := wpAny_of_H (Q' := Q) (g := (opsAt l tl).length + 1) hst (fun w1 w2 h1 h2 => h1.trans (h2.mono h1.size)) (fun listed a' Vs w' hC hF hL => by
      have := wpAny_of_seqL (md := .any) (Q' := Q) ((s, os) :: opsAt l tl) listed a' w' (fun p hp => by rcases List.mem_cons.1 hp with rfl | hp; exact hs; exact opsAt_at hp) (by rw [List.map_cons, e2]; exact hL.1) (wpList_of_LT (hL.2 w' hC hF))
      simpa using this) (fun listed a' Vs w' hC hF hsr hE => by
      obtain ⟨hB, hg, v, hsp, hpu, hn'⟩ := hE
      simp only [lateL, Bool.and_eq_true] at hB
      obtain ⟨⟨⟨⟨h1, h2⟩, h3⟩, h4⟩, h5⟩ := hB
      have hrp : p ∈ Region.ready .any l.toArray listed := by simpa using h2
      have hunp := (mem_ready.1 hrp).1
      obtain ⟨hsun, os', hos', hall⟩ := mem_ready.1 hsr
      have hoe : os' = os := Option.some.inj (hos'.symm.trans hs)
      subst hoe
      have hap := Region.free_spec hp h3 s os' hos' (Ne.symm hps) hsun (fun e he hb heq => by
        have h1 := hall e he hb
        rw [heq, getD_both hunp] at h1
        cases h1)
      obtain ⟨w1, q1, q2, q3, q4⟩ := (hn' w' hC hF).out
      rw [execOp_put os' (fun cs b => Region.noSelect_spec hsel s os' cs b hos') a' op.dst v (Oper.apart_spec hap).1] at q3
      unfold wpOp
      simp only [hos']
      rw [if_pos (wanted_free q1)]
      left
      refine Oper.wp_of_does (Φ := fun u w2 => u = undef ∧ w2 = w1) (by unfold Does; rw [q3]; exact ⟨rfl, rfl⟩) fun u w2 ⟨hu, hw⟩ => ?_
      subst hu; subst hw
      rw [q2]
      have h5' := h5
      simp only [seqL, Bool.and_eq_true, decide_eq_true_eq] at h5'
      refine ⟨fun e => (by rw [h5'.1] at e; cases e), fun i hi => ?_⟩
      rw [h5'.1] at hi
      have hip : i = p := by simpa using hi
      subst hip
      unfold wpOp
      simp only [hp]
      rw [if_pos (wanted_free hg)]
      left
      exact Oper.wp_of_pure (hpu w' hC (fun i' v' _ hv => hF i' v' hv) w2) (wpAny_of_seqL (md := .any) (Q' := Q) (opsAt l tl) _ _ _ (fun p hp => opsAt_at hp) (by rw [e2]; exact h5'.2) q4)) _ _ _ _ ({ w with drawn := w.drawn + 1 } : World) (Below.refl w.heap.size w).drew (fun i v h => by cases h) H
  rw [hlh, hlt, show hd.length + 1 + (tl.length + 1) = hd.length + 2 + tl.length by omega, hn] at this
  exact this
section
variable {P : Program} {ops : Array Oper} {md : Region.Mode} {C : World → Prop} {Sp : Nat → OpSpec}
/-- As LateD, of what is written 'WL'. -/
def LateW (P : Program) (md : Region.Mode) (ops : Array Oper) (Q : Exit → Act → World → Prop) (C : World → Prop) (Sp : Nat → OpSpec) (p : Nat) (op os : Oper) (tail : List Oper) (a : Act) (Vs : Vals) : Prop := LateD P md ops Q C Sp p op os tail a Vs
theorem late_ {p : Nat} {op os : Oper} {tail : List Oper} {Q : Exit → Act → World → Prop} {a : Act} {Vs : Vals} (hg : op.guard = none) {v : Value} (hs : Sp p = .const v) (h : ∀ w, C w → FactsAt md ops Sp p Vs w → ∀ w1, PureAt P op a w1 v)
    (hn : ∀ w, C w → Facts Sp Vs w → LT P ops Q os tail (a.put op.dst v) w) : LateW P md ops Q C Sp p op os tail a Vs := ⟨hg, v, hs, h, hn⟩
end
theorem region_late {P : Program} {id : Nat} {Q : Exit → Act → World → Prop} {a : Act} {W : World} {l : List Oper} (F : Fz) (hd : List Nat) (p s : Nat) (tl : List Nat) (L : List (Nat × Mark)) (hm : P.follows .mixedOrders = true) (hB : lateB .any l.toArray hd p s tl = true) (e1 : (opsAt l hd).map (·.1) = hd) (e2 : (opsAt l tl).map (·.1) = tl)
    {op os : Oper} (e3 : l[p]? = some op) (e4 : l[s]? = some os)
    (h : GP P .any l.toArray (fun w' => Below W.heap.size W w') (specOf W F L) (LateW P .any l.toArray Q (fun w' => Below W.heap.size W w') (specOf W F L) p op os ((opsAt l tl).map (·.2))) (opsAt l hd) a (fun _ => none)) : (Code.region id l.toArray true).wp P Q a W :=
  wp_region_late hd p s tl op os (specOf W F L) hm hB e1 e2 e3 e4 specOf_stable h.out
theorem stLate {P : Program} {w0 w : World} {F0 F : Fz} {L : List Blk} {M : List RowP} {ops : Array Oper} {Q : Exit → Act → World → Prop} {a : Act} {rest : List Oper} {t T T' : TypeId} {x y : Operand} {pos : String} {after : Array Edge} {i n j : Nat} {c : List Value} {v : Value} (S : St w0 F0 w F L M)
    (hx : a.eval x = .pointer (some ⟨n, j, none⟩)) (hy : a.eval y = v) (hL : L[i]? = some ⟨n, c, T'⟩)
    (hi : (P.info? T).map (·.size) = some v.cells.size) (h1 : v.cells.all (·.oneCell') = true) (hl : j + v.cells.size ≤ c.length)
    (h : ∀ w', St w0 F0 w' F (L.set i ⟨n, splice c j v.cells.toList, T'⟩) M → WL P ops Q rest a w') : LT P ops Q ⟨none, .store T x y, t, pos, after, none⟩ rest a w := by
  have hs := storeV (P := P) (T := T) (v := v) hi (S.there hL j v.cells.size hl) h1
  exact ⟨⟨_, rfl, rfl, ex_store hx (by rw [hy]; exact hs), (h _ (S.store hL j v.cells.toList (by simpa using hl))).out⟩⟩
theorem Sl.dropF {α : Type} {k : Nat} {R : Fz → List Value → α → Prop} {w : World} {F : Fz} {n : Nat} {cs : List Value} {T : TypeId} (hs : Sat w F) (hb : w.heap[n]? = some (.cells cs.toArray T (0, 0))) (hR : ∀ c p, R F c p → R (Proofs.YtcanckliggcllaaDoor.dropF F n) c p) (hx : ∀ (c : List Value) p, R F c p → ∃ (j : Nat) (u : Value), c[j]? = some u ∧ u ∉ cs) {v : Value} {l : List α} (h : Sl k R F v l) : Sl k R (Proofs.YtcanckliggcllaaDoor.dropF F n) v l := by
  obtain ⟨xs, ⟨a, c, h1, h2, h3, h4, h5⟩, hr, hk⟩ := h
  refine ⟨xs, ⟨a, c, h1, h2, h3, h4, ?_⟩, hr.imp hR, hk⟩
  rcases h5 with h5 | ⟨b, o, e, h6⟩
  · exact .inl h5
  · by_cases hbn : b = n
    · cases xs with
      | nil => exact .inl rfl
      | cons x xs =>
        exfalso
        cases l with
        | nil => exact hr
        | cons p l =>
          obtain ⟨j, u, hj, hu⟩ := hx _ _ hr.1
          have h0 := h6 j u (by
            rw [List.flatten_cons, List.getElem?_append_left (List.getElem?_eq_some_iff.1 hj).1]
            exact hj)
          subst hbn
          unfold cellF at h0
          split at h0
          · rename_i c0 t0 fr0 hF
            have := hs _ _ hF
            rw [hb] at this
            cases this
            have hm : u ∈ cs := by
              have : cs[o + j]? = some u := by simpa using h0
              exact List.mem_of_getElem? this
            exact hu hm
          · cases h0
    · refine .inr ⟨b, o, e, fun j u hu => ?_⟩
      have h0 := h6 j u hu
      unfold cellF Proofs.YtcanckliggcllaaDoor.dropF at *
      rw [if_neg hbn]
      exact h0
section
variable {w : World} {F : Fz} {n : Nat} {cs : List Value} {T : TypeId}
theorem Rds.dropF (hs : Sat w F) (hb : w.heap[n]? = some (.cells cs.toArray T (0, 0))) (hc : ∀ u ∈ cs, ∀ x, u ≠ bv x) (hc2 : ∀ b, Value.bool b ∉ cs) {v : Value} {l : List Rd} (h : Rds F v l) : Rds (Proofs.YtcanckliggcllaaDoor.dropF F n) v l :=
  Sl.dropF hs hb (RdC.dropF hs hb hc) (fun c p ⟨a0, a1, a2, a3, e, _, _, e2, _⟩ => ⟨2, a2, by rw [e]; rfl, by rw [e2]; exact hc2 _⟩) h
theorem Wrs.dropF (hs : Sat w F) (hb : w.heap[n]? = some (.cells cs.toArray T (0, 0))) (hc : ∀ u ∈ cs, ∀ x, u ≠ bv x) (hc2 : ∀ b, Value.bool b ∉ cs) {v : Value} {l : List Wr} (h : Wrs F v l) : Wrs (Proofs.YtcanckliggcllaaDoor.dropF F n) v l :=
  Sl.dropF hs hb (WrC.dropF hs hb hc) (fun c p ⟨a0, a1, a2, a3, e, _, _, e2, _⟩ => ⟨2, a2, by rw [e]; rfl, by rw [e2]; exact hc2 _⟩) h
end
end Go.Proofs.YtcanckliggcllaaDoor
namespace Go.Proofs.YtcanckliggcllaaDoor
open Go.RowKit
set_option linter.unusedVariables false
structure HL (P : Program) (ops : Array Oper) (Q : Exit → Act → World → Prop) (F : Fz) (fuel : Nat) (listed : Array Bool) (a : Act) (w : World) : Prop where
  out : Go.wpAnyH P .any ops Q (fun w => Sat w F) fuel listed a w
section
variable {P : Program} {ops : Array Oper} {Q : Exit → Act → World → Prop} {F : Fz} {fuel : Nat} {listed : Array Bool} {a : Act} {w : World} {o : Oper}
theorem region_hl {id : Nat} {l : List Oper} {w0 : World} {F0 : Fz} {L : List Blk} {M : List RowP} (S : St w0 F0 w F L M) (hm : P.follows .mixedOrders = true) (h : ∀ w', St w0 F0 w' F L M → HL P l.toArray Q F l.length (Array.replicate l.length false) a w') : (Code.region id l.toArray true).wp P Q a w := by
  have := (h { w with drawn := w.drawn + 1 } (S.tells (Below.refl w.heap.size w).drew)).out
  refine wp_region_held (S := fun w => Sat w F) hm ?_
  simpa using this
def canTake (ops : Array Oper) (listed : Array Bool) (i : Nat) : Bool := Region.noSelect ops && Region.free .any ops listed i && (Region.ready .any ops listed).contains i
theorem hl_take {l : List Oper} (i : Nat) (hi : l[i]? = some o) (hc : canTake l.toArray listed i = true) {v : Value} (hQ : ∀ c a w, Q (.panic c) (a.put o.dst v) w → Q (.panic c) a w) (hS : Sat w F) (hw : Region.wanted o (yielded l.toArray a.tmps) = true)
    (hr : ∀ w1, Sat w1 F → (execOp a.eval o).run P w1 = .ok (.value v) w1) (h : HL P l.toArray Q F fuel (listed.setIfInBounds i true) (a.put o.dst v) w) : HL P l.toArray Q F (fuel + 1) listed a w := by
  simp only [canTake, Bool.and_eq_true] at hc
  exact ⟨Go.wpAnyH_take (by simpa using hi) hc.1.1 hc.1.2 hc.2 hQ (.inl ⟨hw, hr⟩) hS h.out⟩
theorem Oper.wp_exit {K K' : Act → World → Prop} (hh : o.wp P a w K (Exit.then K' Q)) : o.wp P a w K Q := by
  unfold Oper.wp at *
  generalize (execOp a.eval o).run P w = r at *
  cases r with
  | ok n w' =>
    cases n <;> simp only [Oper.upon] at hh ⊢ <;> try exact hh
  | halt x w' => cases x <;> exact hh
/-- The only one that may come up. -/
theorem hl_next {l : List Oper} (i : Nat) (hr : Region.ready .any l.toArray listed = [i]) (hi : l[i]? = some o) (h : WL P l.toArray (Exit.then (fun a' w' => Sat w' F ∧ Go.wpAnyH P .any l.toArray Q (fun w => Sat w F) fuel (listed.setIfInBounds i true) a' w') Q) [o] a w) : HL P l.toArray Q F (fuel + 1) listed a w := by
  refine ⟨Go.wpAnyH_all hr (by simp) fun j hj => ?_⟩
  have hji : j = i := by simpa using hj
  subst hji
  have h1 := h.out
  unfold wpList at h1
  unfold wpOp
  have hi' : l.toArray[j]? = some o := by simpa using hi
  simp only [hi']
  split
  · rename_i hw
    rw [if_pos hw] at h1
    rcases h1 with h1 | h1
    · left
      refine Oper.wp_mono (fun a' w' hk => ?_) (Oper.wp_exit h1)
      exact hk
    · exact .inr h1
  · rename_i hw
    rw [if_neg hw] at h1
    exact h1
theorem hl_back (hS : Sat w F) (h : HL P ops Q F fuel listed a w) : Exit.then (fun a' w' => Sat w' F ∧ Go.wpAnyH P .any ops Q (fun w => Sat w F) fuel listed a' w') Q .normal a w := ⟨hS, h.out⟩
theorem hl_done (hr : Region.ready .any ops listed = []) (h : Q .normal a w) : HL P ops Q F fuel listed a w := ⟨Go.wpAnyH_done hr h _⟩
end
end Go.Proofs.YtcanckliggcllaaDoor
