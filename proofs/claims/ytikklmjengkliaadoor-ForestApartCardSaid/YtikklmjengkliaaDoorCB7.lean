/- Rules, plain laws and walks: K4 K5 K6 S8 S9 S10 T0 BY D1 DG1 -/
import Derived.Test.YtikklmjengkliaaDoorCB6
import Derived.Test.YtikklmjengkliaaDoorCB5
import Derived.Test.YtikklmjengkliaaDoorCB4
import Derived.OrdersHeld
import Derived.Test.YtikklmjengkliaaDoorCards
import Derived.Test.YtikklmjengkliaaDoorTie
import Derived.WalkKit
import Derived.ProofKit
import Derived.OpenShut
import Derived.Deep.DeepHandedRow
import Derived.Lib.LaidTab
import Derived.Lib.SmallJoins
import Derived.Test.YtikklmjengkliaaDoorCB2
import Derived.Test.YtikklmjengkliaaDoorCB1
import Derived.Deep.QuietTactic
import Derived.BigQuiet
import Derived.Test.YtikklmjengkliaaDoorCB3
import Derived.StillTailTactics
import Derived.Deep.MidRow
namespace Go.Proofs.YtikklmjengkliaaDoor
open Go.RowKit
set_option maxRecDepth 100000
set_option linter.unusedVariables false
set_option linter.unusedSimpArgs false
set_option maxHeartbeats 8000000 in
theorem keepWrite_spec (F : Fz) (w : World) (v : Value) (p : Pl) (hs : Sat w F) (hv : PlV F v p) :
    Calls Tryd.prog 20 #[v] w (Gives w F fun F' u => WrV F' u (writeP p)) := by
 obtain ⟨x0, y0, x1, y1, x2, y2, rfl, h0, h1, h2⟩ := hv
 have S := St.start hs
 go_enter Tryd.func20, Tryd.ntmps20
 refine wp_seq_k (fun K1 hK1 => region_wl ?_)
 refine stNew S (v := fun n => .pointer (some ⟨n, 0, none⟩)) rfl (ex_box (v := (.agg #[(.slice x0 p.name.length y0), (.slice x1 p.key.length y1), (.slice x2 p.value.length y2), (.bool p.gone)])) rfl) (fun n2 w3 S4 => ?_)
 simp only [pS, pN, pA, pC, pZ]
 have S4 : St w F w3 F [⟨n2, [(.slice x0 p.name.length y0), (.slice x1 p.key.length y1), (.slice x2 p.value.length y2), (.bool p.gone)], 45⟩] [] := S4
 refine stNew S4 (v := fun n => .pointer (some ⟨n, 0, none⟩)) rfl (ex_alloc (zero_36 _)) (fun n5 w6 S7 => ?_)
 simp only [pS, pN, pA, pC, pZ]
 have S7 : St w F w6 F [⟨n5, [(.slice none 0 0), (.slice none 0 0), (.bool false), (.slice none 0 0)], 36⟩, ⟨n2, [(.slice x0 p.name.length y0), (.slice x1 p.key.length y1), (.slice x2 p.value.length y2), (.bool p.gone)], 45⟩] [] := S7
 refine wl_nil (hK1 _ _ ?_)
 refine wp_seq_k (fun K8 hK8 => ?_)
 refine region_gw F 10 [(2, .made (fun F' u => Bs F' u (nameL p.name))), (5, .made (fun F' u => Bs F' u (keyL p.key))), (8, .made (fun F' u => WrV F' u (⟨(nameL p.name), (keyL p.key), p.gone, ([] : By)⟩ : Wr))), (9, .rel (NewAt w6 [(.slice none 0 0), (.slice none 0 0), (.bool false), (.slice none 0 0)] 36) (NewAt.stable _ _ _))] (by kernel_rfl) (by kernel_rfl) ?_
 simp only [List.take_succ_cons, List.take_zero]
 refine gw_pure rfl rfl (.pointer (some ⟨n2, 0, none⟩)) (fun w9 hCw9 => pureAt_of (ex_field (q := ⟨n2, 0, none⟩) rfl (fa_45_0 _ _))) ?_
 simp only [pS, pN, pA, pC, pZ]
 refine gw_pure rfl rfl (.slice x0 p.name.length y0) (fun w9 hCw9 => pureAt_of (ex_load rfl (load1 (nagg_23 _) (St.cell (St.tells S7 hCw9) (i := 1) rfl rfl)))) ?_
 simp only [pS, pN, pA, pC, pZ]
 refine gw_rel rfl rfl (fun w9 hCw9 hF => does_call (ex_fn (vs := #[(.slice x0 p.name.length y0)]) (map1 rfl) rfl (ent_45 _ _)) (call_made S7.sat hCw9 (name_spec _ _ _ p.name ((St.tells S7 hCw9)).sat h0))) (fun v10 => ?_)
 simp only [pS, pN, pA, pC, pZ]
 refine gw_pure rfl rfl (.pointer (some ⟨n2, 1, none⟩)) (fun w9 hCw9 => pureAt_of (ex_field (q := ⟨n2, 1, none⟩) rfl (fa_45_1 _ _))) ?_
 simp only [pS, pN, pA, pC, pZ]
 refine gw_pure rfl rfl (.slice x1 p.key.length y1) (fun w9 hCw9 => pureAt_of (ex_load rfl (load1 (nagg_23 _) (St.cell (St.tells S7 hCw9) (i := 1) rfl rfl)))) ?_
 simp only [pS, pN, pA, pC, pZ]
 refine gw_rel rfl rfl (fun w9 hCw9 hF => does_call (ex_fn (vs := #[(.slice x1 p.key.length y1)]) (map1 rfl) rfl (ent_46 _ _)) (call_made S7.sat hCw9 (key_spec _ _ _ p.key ((St.tells S7 hCw9)).sat h1))) (fun v11 => ?_)
 simp only [pS, pN, pA, pC, pZ]
 refine gw_pure rfl rfl (.pointer (some ⟨n2, 3, none⟩)) (fun w9 hCw9 => pureAt_of (ex_field (q := ⟨n2, 3, none⟩) rfl (fa_45_3 _ _))) ?_
 simp only [pS, pN, pA, pC, pZ]
 refine gw_pure rfl rfl (.bool p.gone) (fun w9 hCw9 => pureAt_of (ex_load rfl (load1 (nagg_4 _) (St.cell (St.tells S7 hCw9) (i := 1) rfl rfl)))) ?_
 simp only [pS, pN, pA, pC, pZ]
 refine gw_rel rfl rfl (fun w9 hCw9 hF_ => ?_) (fun v12 => ?_)
 ·obtain ⟨F13, g14, R15⟩ := hF_.get 2 (by kernel_rfl) rfl rfl
  obtain ⟨F18, g19, R20⟩ := hF_.get 5 (by kernel_rfl) rfl rfl
  have hR0 := (R15.mono (both_left F13 F18))
  obtain ⟨xa23, xc24, rfl, _⟩ := hR0.shape
  have hR1 := (R20.mono (both_right g14.sat g19.sat))
  obtain ⟨xa25, xc26, rfl, _⟩ := hR1.shape
  have hR3 := Bs.nil (both F13 F18)
  exact does_val (ex_build (bmap3 rfl rfl rfl) (by kernel_rfl)) ⟨(both F13 F18), (g14.both g19), ⟨_, _, _, _, _, _, rfl, hR0, hR1, hR3⟩⟩ (Below.refl _ _)
 simp only [pS, pN, pA, pC, pZ]
 refine gw_rel rfl rfl (fun w9 hCw9 _ => does_alloc (cs := [(.slice none 0 0), (.slice none 0 0), (.bool false), (.slice none 0 0)]) (zero_36 _) rfl hCw9) (fun v27 => ?_)
 simp only [pS, pN, pA, pC, pZ]
 refine gw_nil ?_
 intro w28 hC30 hF31
 obtain ⟨n32, rfl, hn33, hb34⟩ := hF31.getR 9 rfl rfl
 have hnbn32 : ∀ u ∈ [(.slice none 0 0), (.slice none 0 0), (.bool false), (.slice none 0 0)], ∀ x, u ≠ bv x := by intro u hu x; simp only [List.mem_cons, List.not_mem_nil, or_false] at hu; rcases hu with rfl | rfl | rfl | rfl <;> (unfold bv; simp)
 obtain ⟨F35, g36, R37⟩ := hF31.get 8 rfl rfl
 have g38 := g36.dropF S7.sat hn33
 have R39 := WrV.dropF g36.sat hb34 hnbn32 R37
 have S29 := St.addBlk (cs := [(.slice none 0 0), (.slice none 0 0), (.bool false), (.slice none 0 0)]) S7 g38 hn33 (dropF_at _ _) hb34
 have le41 : Le _ _ := g38.le S7.sat
 have R42 := R39
 generalize (dropF F35 n32) = F40 at *
 obtain ⟨xa43, xc44, xa46, xc47, xa49, xc50, rfl, r45, r48, r51⟩ := R42
 have r45 : Bs _ (.slice xa43 (nameL p.name).length xc44) (nameL p.name) := r45
 have r48 : Bs _ (.slice xa46 (keyL p.key).length xc47) (keyL p.key) := r48
 have r51 : Bs _ (.slice xa49 ([] : By).length xc50) ([] : By) := r51
 clear hF31
 simp only [List.drop_succ_cons, List.drop_zero]
 have S29 : St w F w28 F40 [⟨n32, [(.slice none 0 0), (.slice none 0 0), (.bool false), (.slice none 0 0)], 36⟩, ⟨n5, [(.slice none 0 0), (.slice none 0 0), (.bool false), (.slice none 0 0)], 36⟩, ⟨n2, [(.slice x0 p.name.length y0), (.slice x1 p.key.length y1), (.slice x2 p.value.length y2), (.bool p.gone)], 45⟩] [] := S29
 refine stStore (i := 0) (v := (.agg #[(.slice xa43 (nameL p.name).length xc44), (.slice xa46 (keyL p.key).length xc47), (.bool p.gone), (.slice xa49 ([] : By).length xc50)])) S29 rfl rfl rfl rfl (size_36) (allc4 rfl rfl rfl rfl) (Nat.le_of_ble_eq_true rfl) (fun w52 S53 => ?_)
 simp only [pS, pN, pA, pC, pZ]
 have S53 : St w F w52 F40 [⟨n32, [(.slice xa43 (nameL p.name).length xc44), (.slice xa46 (keyL p.key).length xc47), (.bool p.gone), (.slice xa49 ([] : By).length xc50)], 36⟩, ⟨n5, [(.slice none 0 0), (.slice none 0 0), (.bool false), (.slice none 0 0)], 36⟩, ⟨n2, [(.slice x0 p.name.length y0), (.slice x1 p.key.length y1), (.slice x2 p.value.length y2), (.bool p.gone)], 45⟩] [] := S53
 refine wl_nil (hK8 _ _ ?_)
 refine wp_seq_k (fun K54 hK54 => ?_)
 refine wp_seq_k (fun K55 hK55 => region_wl ?_)
 refine do_ rfl (.pointer (some ⟨n2, 3, none⟩)) (ex_field (q := ⟨n2, 3, none⟩) rfl (fa_45_3 _ _)) ?_
 simp only [pS, pN, pA, pC, pZ]
 refine do_ rfl (.bool p.gone) (ex_load rfl (load1 (nagg_4 _) (St.cell S53 (i := 2) rfl rfl))) ?_
 simp only [pS, pN, pA, pC, pZ]
 refine do_ rfl (.bool (!p.gone)) (ex_not rfl rfl) ?_
 simp only [pS, pN, pA, pC, pZ]
 refine wl_nil (hK55 _ _ ?_)
 refine wp_cond_split rfl (fun hc56 => ?_) (fun hc56 => ?_)
 ·refine region_wl ?_
  refine do_ rfl (.pointer (some ⟨n2, 2, none⟩)) (ex_field (q := ⟨n2, 2, none⟩) rfl (fa_45_2 _ _)) ?_
  simp only [pS, pN, pA, pC, pZ]
  refine do_ rfl (.slice x2 p.value.length y2) (ex_load rfl (load1 (nagg_23 _) (St.cell S53 (i := 2) rfl rfl))) ?_
  simp only [pS, pN, pA, pC, pZ]
  refine stGives S53 rfl (ex_fn (vs := #[(.slice x2 p.value.length y2), (.int .i64 32)]) (map2 rfl rfl) rfl (ent_47 _ _)) (some_spec _ _ _ p.value 32 (S53).sat (h2.mono le41) (by omega) (by omega)) ?_
  intro v62 w57 F59 S58 le60 R61
  obtain ⟨xa63, xc64, rfl, _⟩ := R61.shape
  simp only [pS, pN, pA, pC, pZ]
  refine do_ rfl (.pointer (some ⟨n32, 3, none⟩)) (ex_field (q := ⟨n32, 3, none⟩) rfl (fa_36_3 _ _)) ?_
  simp only [pS, pN, pA, pC, pZ]
  refine stStore (i := 0) (v := (.slice xa63 (p.value.take 32).length xc64)) S58 rfl rfl rfl rfl (size_23) (allc1 rfl) (Nat.le_of_ble_eq_true rfl) (fun w65 S66 => ?_)
  simp only [pS, pN, pA, pC, pZ]
  have S66 : St w F w65 F59 [⟨n32, [(.slice xa43 (nameL p.name).length xc44), (.slice xa46 (keyL p.key).length xc47), (.bool p.gone), (.slice xa63 (p.value.take 32).length xc64)], 36⟩, ⟨n5, [(.slice none 0 0), (.slice none 0 0), (.bool false), (.slice none 0 0)], 36⟩, ⟨n2, [(.slice x0 p.name.length y0), (.slice x1 p.key.length y1), (.slice x2 p.value.length y2), (.bool p.gone)], 45⟩] [] := S66
  refine wl_nil (hK54 _ _ ?_)
  refine wp_seq_k (fun K67 hK67 => region_wl ?_)
  refine do_ rfl (.agg #[(.slice xa43 (nameL p.name).length xc44), (.slice xa46 (keyL p.key).length xc47), (.bool p.gone), (.slice xa63 (p.value.take 32).length xc64)]) (ex_load rfl (loadN (cs := [(.slice xa43 (nameL p.name).length xc44), (.slice xa46 (keyL p.key).length xc47), (.bool p.gone), (.slice xa63 (p.value.take 32).length xc64)]) Tryd.underlying36 rfl (size_36) (St.range S66 (i := 0) rfl 0 [(.slice xa43 (nameL p.name).length xc44), (.slice xa46 (keyL p.key).length xc47), (.bool p.gone), (.slice xa63 (p.value.take 32).length xc64)] (sub_range 0 rfl)))) ?_
  simp only [pS, pN, pA, pC, pZ]
  refine stStore (i := 1) (v := (.agg #[(.slice xa43 (nameL p.name).length xc44), (.slice xa46 (keyL p.key).length xc47), (.bool p.gone), (.slice xa63 (p.value.take 32).length xc64)])) S66 rfl rfl rfl rfl (size_36) (allc4 rfl rfl rfl rfl) (Nat.le_of_ble_eq_true rfl) (fun w68 S69 => ?_)
  simp only [pS, pN, pA, pC, pZ]
  have S69 : St w F w68 F59 [⟨n32, [(.slice xa43 (nameL p.name).length xc44), (.slice xa46 (keyL p.key).length xc47), (.bool p.gone), (.slice xa63 (p.value.take 32).length xc64)], 36⟩, ⟨n5, [(.slice xa43 (nameL p.name).length xc44), (.slice xa46 (keyL p.key).length xc47), (.bool p.gone), (.slice xa63 (p.value.take 32).length xc64)], 36⟩, ⟨n2, [(.slice x0 p.name.length y0), (.slice x1 p.key.length y1), (.slice x2 p.value.length y2), (.bool p.gone)], 45⟩] [] := S69
  refine wl_nil (hK67 _ _ ?_)
  refine wp_ret ?_
  (try simp only [Exit.then, Exit.inBlock, ↓reduceIte, Nat.reduceEqDiff])
  refine bodyPost_ret (v := (.agg #[(.slice xa43 (nameL p.name).length xc44), (.slice xa46 (keyL p.key).length xc47), (.bool p.gone), (.slice xa63 (p.value.take 32).length xc64)])) ?_ rfl ?_
  ·exact res_c rfl ⟨_, rfl, loadN (cs := [(.slice xa43 (nameL p.name).length xc44), (.slice xa46 (keyL p.key).length xc47), (.bool p.gone), (.slice xa63 (p.value.take 32).length xc64)]) Tryd.underlying36 rfl (size_36) (St.range S69 (i := 1) rfl 0 [(.slice xa43 (nameL p.name).length xc44), (.slice xa46 (keyL p.key).length xc47), (.bool p.gone), (.slice xa63 (p.value.take 32).length xc64)] (sub_range 0 rfl))⟩
  ·have hw : writeP p = ⟨nameL p.name, keyL p.key, p.gone, (p.value.take 32)⟩ := by unfold writeP; rw [show p.gone = false from by simpa using hc56]; rfl
   rw [hw]
   exact ⟨_, _, rfl, S69.gr, _, _, _, _, _, _, rfl, (r45.mono le60), (r48.mono le60), R61⟩
 ·refine wp_skip ?_
  refine hK54 _ _ ?_
  refine wp_seq_k (fun K70 hK70 => region_wl ?_)
  refine do_ rfl (.agg #[(.slice xa43 (nameL p.name).length xc44), (.slice xa46 (keyL p.key).length xc47), (.bool p.gone), (.slice xa49 ([] : By).length xc50)]) (ex_load rfl (loadN (cs := [(.slice xa43 (nameL p.name).length xc44), (.slice xa46 (keyL p.key).length xc47), (.bool p.gone), (.slice xa49 ([] : By).length xc50)]) Tryd.underlying36 rfl (size_36) (St.range S53 (i := 0) rfl 0 [(.slice xa43 (nameL p.name).length xc44), (.slice xa46 (keyL p.key).length xc47), (.bool p.gone), (.slice xa49 ([] : By).length xc50)] (sub_range 0 rfl)))) ?_
  simp only [pS, pN, pA, pC, pZ]
  refine stStore (i := 1) (v := (.agg #[(.slice xa43 (nameL p.name).length xc44), (.slice xa46 (keyL p.key).length xc47), (.bool p.gone), (.slice xa49 ([] : By).length xc50)])) S53 rfl rfl rfl rfl (size_36) (allc4 rfl rfl rfl rfl) (Nat.le_of_ble_eq_true rfl) (fun w71 S72 => ?_)
  simp only [pS, pN, pA, pC, pZ]
  have S72 : St w F w71 F40 [⟨n32, [(.slice xa43 (nameL p.name).length xc44), (.slice xa46 (keyL p.key).length xc47), (.bool p.gone), (.slice xa49 ([] : By).length xc50)], 36⟩, ⟨n5, [(.slice xa43 (nameL p.name).length xc44), (.slice xa46 (keyL p.key).length xc47), (.bool p.gone), (.slice xa49 ([] : By).length xc50)], 36⟩, ⟨n2, [(.slice x0 p.name.length y0), (.slice x1 p.key.length y1), (.slice x2 p.value.length y2), (.bool p.gone)], 45⟩] [] := S72
  refine wl_nil (hK70 _ _ ?_)
  refine wp_ret ?_
  (try simp only [Exit.then, Exit.inBlock, ↓reduceIte, Nat.reduceEqDiff])
  refine bodyPost_ret (v := (.agg #[(.slice xa43 (nameL p.name).length xc44), (.slice xa46 (keyL p.key).length xc47), (.bool p.gone), (.slice xa49 ([] : By).length xc50)])) ?_ rfl ?_
  ·exact res_c rfl ⟨_, rfl, loadN (cs := [(.slice xa43 (nameL p.name).length xc44), (.slice xa46 (keyL p.key).length xc47), (.bool p.gone), (.slice xa49 ([] : By).length xc50)]) Tryd.underlying36 rfl (size_36) (St.range S72 (i := 1) rfl 0 [(.slice xa43 (nameL p.name).length xc44), (.slice xa46 (keyL p.key).length xc47), (.bool p.gone), (.slice xa49 ([] : By).length xc50)] (sub_range 0 rfl))⟩
  ·have hw : writeP p = ⟨nameL p.name, keyL p.key, p.gone, ([] : By)⟩ := by unfold writeP; rw [show p.gone = true from by simpa using hc56]; rfl
   rw [hw]
   exact ⟨_, _, rfl, S72.gr, _, _, _, _, _, _, rfl, r45, r48, r51⟩
set_option maxHeartbeats 8000000 in
theorem writes_spec (F : Fz) (w : World) (v : Value) (l : List Pl) (m : Nat) (hs : Sat w F) (hv : Pls F v l) (hm : m ≤ 100000) :
    Calls Tryd.prog 37 #[v, .int .i64 (m : Nat)] w (Gives w F fun F' u => Wrs F' u (writesN l m)) := by
 obtain ⟨a, c, rfl, hc1, hc2⟩ := Sl.shape hv
 unfold maxLen at hc2
 obtain ⟨i36, hi36, hz36, hs36, hb36⟩ := info_parts info_36
 have S := St.start hs
 go_enter Tryd.func37, Tryd.ntmps37
 refine wp_seq_k (fun K1 hK1 => region_wl ?_)
 refine do_ rfl (.slice none 0 0) (ex_assign _) ?_
 simp only [pS, pN, pA, pC, pZ]
 refine wl_nil (hK1 _ _ ?_)
 refine wp_seq_k (fun K2 hK2 => region_wl ?_)
 refine do_ rfl (.slice none 0 0) (ex_assign _) ?_
 simp only [pS, pN, pA, pC, pZ]
 refine wl_nil (hK2 _ _ ?_)
 refine wp_seq_k (fun K3 hK3 => ?_)
 refine wp_seq_k (fun K4 hK4 => region_wl ?_)
 refine do_ rfl (.int .i64 0) (ex_assign _) ?_
 simp only [pS, pN, pA, pC, pZ]
 refine wl_nil (hK4 _ _ ?_)
 refine wp_block ?_
 have S5 := St.addNil S 4 WrC WrC.mono 36 w.heap.size
 refine wp_loop_g (fun mm aa w8 => ∃ (i : Nat) (v : Value) (F6 : Fz) (u7 : Nat → Value), mm = l.length - i ∧ u7 = slots aa ∧ aa = ⟨#[(.slice a l.length c), (.int .i64 ((m : Nat) : Int)), undef, undef, (.slice none 0 0), v, (.int .i64 ((i : Nat) : Int)), (u7 7), (u7 8), (u7 9), (u7 10), (u7 11), (u7 12), (u7 13), (u7 14), (u7 15), (u7 16), (u7 17), (u7 18), (u7 19), (u7 20), (u7 21), (u7 22), (u7 23), (u7 24), (u7 25), (u7 26), (u7 27), undef], []⟩ ∧ St w F w8 F6 [] [ownP 4 WrC WrC.mono 36 w.heap.size v (writesN l i)] ∧ Le F F6 ∧ (i ≤ l.length) ∧ (i ≤ m)) _ ⟨0, (.slice none 0 0), F, _, rfl, rfl, rfl, S5, Le.refl _, (by omega), (by omega)⟩ ?_
 rintro m9 a10 w11 ⟨i, v, F6, u7, rfl, -, rfl, S12, le13, hi, him⟩ K14 hK14
 refine wp_seq_k (fun K15 hK15 => ?_)
 refine wp_seq_k (fun K16 hK16 => region_wl ?_)
 refine do_ rfl (.int .i64 ((i : Nat) : Int)) (ex_move _) ?_
 simp only [pS, pN, pA, pC, pZ]
 refine do_ rfl (.slice a l.length c) (ex_move _) ?_
 simp only [pS, pN, pA, pC, pZ]
 refine do_ rfl (.int .i64 ((l.length : Nat) : Int)) (ex_len Tryd.underlying22 rfl) ?_
 simp only [pS, pN, pA, pC, pZ]
 by_cases hc11 : i < l.length
 ·refine do_ rfl (.bool true) (ex_lss (m := ((i : Nat) : Int)) (n := ((l.length : Nat) : Int)) (b := true) rfl rfl (decide_eq_true (by omega))) ?_
  simp only [pS, pN, pA, pC, pZ]
  refine do_ rfl (.bool true) (ex_move _) ?_
  simp only [pS, pN, pA, pC, pZ]
  refine do_ rfl (.int .i64 ((i : Nat) : Int)) (ex_move _) ?_
  simp only [pS, pN, pA, pC, pZ]
  refine do_ rfl (.int .i64 ((m : Nat) : Int)) (ex_move _) ?_
  simp only [pS, pN, pA, pC, pZ]
  by_cases hc15 : i < m
  ·refine do_ rfl (.bool true) (ex_lss (m := ((i : Nat) : Int)) (n := ((m : Nat) : Int)) (b := true) rfl rfl (decide_eq_true (by omega))) ?_
   simp only [pS, pN, pA, pC, pZ]
   refine do_ rfl (.bool true) (ex_pick (b := true) rfl) ?_
   simp only [pS, pN, pA, pC, pZ]
   refine wl_nil (hK16 _ _ ?_)
   refine wp_cond_true rfl ?_
   refine wp_skip ?_
   refine hK15 _ _ ?_
   refine wp_seq_k (fun K17 hK17 => ?_)
   refine wp_block ?_
   refine wp_seq_k (fun K18 hK18 => ?_)
   obtain ⟨p, hp⟩ : ∃ p, l[i]? = some p := ⟨l[i]'(by omega), List.getElem?_eq_getElem (by omega)⟩
   have hlw := writesN_len l i
   obtain ⟨b19, o20, ha21, xa23, xc24, xa27, xc28, xa31, xc32, c22, c26, c30, c34, r25, r29, r33⟩ := Pls.get (hv.mono le13) hp
   refine region_wl ?_
   refine do_ rfl (.slice a l.length c) (ex_move _) ?_
   simp only [pS, pN, pA, pC, pZ]
   refine do_ rfl (.int .i64 ((i : Nat) : Int)) (ex_move _) ?_
   simp only [pS, pN, pA, pC, pZ]
   refine do_ rfl (.pointer (some ⟨b19, o20 + i * 4, none⟩)) (ex_at (i := i) (sz := 4) Tryd.underlying22 (sizeof_45 _) rfl ha21 rfl (by omega) rfl) ?_
   simp only [pS, pN, pA, pC, pZ]
   refine do_ rfl (.agg #[(.slice xa23 p.name.length xc24), (.slice xa27 p.key.length xc28), (.slice xa31 p.value.length xc32), (.bool p.gone)]) (ex_load rfl (loadN (cs := [(.slice xa23 p.name.length xc24), (.slice xa27 p.key.length xc28), (.slice xa31 p.value.length xc32), (.bool p.gone)]) Tryd.underlying45 rfl (size_45) (range4 (St.fz S12 c22) (St.fz S12 c26) (St.fz S12 c30) (St.fz S12 c34)))) ?_
   simp only [pS, pN, pA, pC, pZ]
   refine stGives S12 rfl (ex_fn (vs := #[(.agg #[(.slice xa23 p.name.length xc24), (.slice xa27 p.key.length xc28), (.slice xa31 p.value.length xc32), (.bool p.gone)])]) (map1 rfl) rfl (ent_20 _ _)) (keepWrite_spec _ _ _ p (S12).sat ⟨_, _, _, _, _, _, rfl, r25, r29, r33⟩) ?_
   intro v40 w35 F37 S36 le38 R39
   obtain ⟨xa41, xc42, xa43, xc44, xa45, xc46, rfl, r47, r48, r49⟩ := R39
   simp only [pS, pN, pA, pC, pZ]
   refine stNew S36 (v := fun n => .pointer (some ⟨n, 0, none⟩)) rfl (ex_alloc (zero_36 _)) (fun n50 w51 S52 => ?_)
   simp only [pS, pN, pA, pC, pZ]
   have S52 : St w F w51 F37 [⟨n50, [(.slice none 0 0), (.slice none 0 0), (.bool false), (.slice none 0 0)], 36⟩] [ownP 4 WrC WrC.mono 36 w.heap.size v (writesN l i)] := S52
   refine stStore (i := 0) (v := (.agg #[(.slice xa41 (writeP p).name.length xc42), (.slice xa43 (writeP p).key.length xc44), (.bool (writeP p).gone), (.slice xa45 (writeP p).value.length xc46)])) S52 rfl rfl rfl rfl (size_36) (allc4 rfl rfl rfl rfl) (Nat.le_of_ble_eq_true rfl) (fun w53 S54 => ?_)
   simp only [pS, pN, pA, pC, pZ]
   have S54 : St w F w53 F37 [⟨n50, [(.slice xa41 (writeP p).name.length xc42), (.slice xa43 (writeP p).key.length xc44), (.bool (writeP p).gone), (.slice xa45 (writeP p).value.length xc46)], 36⟩] [ownP 4 WrC WrC.mono 36 w.heap.size v (writesN l i)] := S54
   refine wl_nil (hK18 _ _ ?_)
   refine region_wl ?_
   refine do_ rfl v (ex_move _) ?_
   simp only [pS, pN, pA, pC, pZ]
   refine do_ rfl (.agg #[(.slice xa41 (writeP p).name.length xc42), (.slice xa43 (writeP p).key.length xc44), (.bool (writeP p).gone), (.slice xa45 (writeP p).value.length xc46)]) (ex_load rfl (loadN (cs := [(.slice xa41 (writeP p).name.length xc42), (.slice xa43 (writeP p).key.length xc44), (.bool (writeP p).gone), (.slice xa45 (writeP p).value.length xc46)]) Tryd.underlying36 rfl (size_36) (St.range S54 (i := 0) rfl 0 [(.slice xa41 (writeP p).name.length xc42), (.slice xa43 (writeP p).key.length xc44), (.bool (writeP p).gone), (.slice xa45 (writeP p).value.length xc46)] (sub_range 0 rfl)))) ?_
   simp only [pS, pN, pA, pC, pZ]
   refine stNew S54 (v := fun n => .slice (some ⟨n, 0, none⟩) 1 1) rfl (ex_lit (ps := #[(0, (.agg #[(.slice xa41 (writeP p).name.length xc42), (.slice xa43 (writeP p).key.length xc44), (.bool (writeP p).gone), (.slice xa45 (writeP p).value.length xc46)]))]) (cells := #[(.slice xa41 (writeP p).name.length xc42), (.slice xa43 (writeP p).key.length xc44), (.bool (writeP p).gone), (.slice xa45 (writeP p).value.length xc46)]) (E := 36) (bmap1 rfl) (fun w => by kernel_rfl)) (fun n55 w56 S57 => ?_)
   simp only [pS, pN, pA, pC, pZ]
   have S57 : St w F w56 F37 [⟨n55, [(.slice xa41 (writeP p).name.length xc42), (.slice xa43 (writeP p).key.length xc44), (.bool (writeP p).gone), (.slice xa45 (writeP p).value.length xc46)], 36⟩, ⟨n50, [(.slice xa41 (writeP p).name.length xc42), (.slice xa43 (writeP p).key.length xc44), (.bool (writeP p).gone), (.slice xa45 (writeP p).value.length xc46)], 36⟩] [ownP 4 WrC WrC.mono 36 w.heap.size v (writesN l i)] := S57
   refine stPush (i := 0) (r := 0) (p := (writeP p)) (cs := [(.slice xa41 (writeP p).name.length xc42), (.slice xa43 (writeP p).key.length xc44), (.bool (writeP p).gone), (.slice xa45 (writeP p).value.length xc46)]) S57 rfl i36 (.agg #[(.slice none 0 0), (.slice none 0 0), (.bool false), (.slice none 0 0)]) 80 Tryd.underlying37 hi36 hz36 hs36 hb36 rfl (by decide) rfl rfl rfl rfl rfl (WrC.oneCell (p := writeP p) ⟨_, _, _, _, rfl, r47, r48, rfl, r49⟩) (⟨_, _, _, _, rfl, r47, r48, rfl, r49⟩) (Nat.le_refl _) S57.gr.below.size (by unfold maxLen; omega) (by omega) ?_
   intro v58 w59 S60 hn61
   simp only [pS, pN, pA, pC, pZ]
   have S60 := St.drop S60 (L' := [⟨n50, [(.slice xa41 (writeP p).name.length xc42), (.slice xa43 (writeP p).key.length xc44), (.bool (writeP p).gone), (.slice xa45 (writeP p).value.length xc46)], 36⟩]) (.cons _ (List.Sublist.refl _))
   have S60 : St w F w59 F37 [⟨n50, [(.slice xa41 (writeP p).name.length xc42), (.slice xa43 (writeP p).key.length xc44), (.bool (writeP p).gone), (.slice xa45 (writeP p).value.length xc46)], 36⟩] [ownP 4 WrC WrC.mono 36 w.heap.size v58 ((writesN l i) ++ [(writeP p)])] := S60
   refine do_ rfl v58 (ex_assign _) ?_
   simp only [pS, pN, pA, pC, pZ]
   refine wl_nil (hK17 _ _ ?_)
   refine region_wl ?_
   refine do_ rfl (.int .i64 ((i : Nat) : Int)) (ex_move _) ?_
   simp only [pS, pN, pA, pC, pZ]
   refine do_ rfl (.int .i64 (((i + 1) : Nat) : Int)) (ex_add (m := ((i : Nat) : Int)) (n := (1 : Int)) (r := (((i + 1) : Nat) : Int)) rfl rfl (by omega) (by omega) (by omega)) ?_
   simp only [pS, pN, pA, pC, pZ]
   refine do_ rfl (.int .i64 (((i + 1) : Nat) : Int)) (ex_assign _) ?_
   simp only [pS, pN, pA, pC, pZ]
   refine wl_nil ?_
   have S60 := St.drop S60 (L' := []) (.cons _ (List.Sublist.refl _))
   rw [← writesN_succ hp] at S60
   exact hK14 _ _ _ (by omega) ⟨(i + 1), v58, F37, _, rfl, rfl, rfl, S60, (le13.trans le38), (by omega), (by omega)⟩
  ·refine do_ rfl (.bool false) (ex_lss (m := ((i : Nat) : Int)) (n := ((m : Nat) : Int)) (b := false) rfl rfl (decide_eq_false (by omega))) ?_
   simp only [pS, pN, pA, pC, pZ]
   refine do_ rfl (.bool false) (ex_pick (b := true) rfl) ?_
   simp only [pS, pN, pA, pC, pZ]
   refine wl_nil (hK16 _ _ ?_)
   refine wp_cond_false rfl ?_
   refine wp_exit ?_
   refine hK3 _ _ ?_
   refine wp_seq_k (fun K62 hK62 => region_wl ?_)
   refine do_ rfl v (ex_move _) ?_
   simp only [pS, pN, pA, pC, pZ]
   refine do_ rfl v (ex_assign _) ?_
   simp only [pS, pN, pA, pC, pZ]
   refine wl_nil (hK62 _ _ ?_)
   refine wp_ret ?_
   (try simp only [Exit.then, Exit.inBlock, ↓reduceIte, Nat.reduceEqDiff])
   refine bodyPost_ret (v := v) ?_ rfl ?_
   ·exact res_t rfl rfl
   ·have hend : writesN l i = writesN l m := by first | exact writesN_end (by omega) him | exact congrArg _ (by omega)
    obtain ⟨F63, S64, le65, hv66⟩ := St.freeze S12 (i := 0) rfl (Nat.le_refl _)
    have S64 : St w F w11 F63 [] [] := S64
    have hv66 : Wrs _ v (writesN l i) := hv66
    rw [hend] at hv66
    exact ⟨_, _, rfl, S64.gr, hv66⟩
 ·refine do_ rfl (.bool false) (ex_lss (m := ((i : Nat) : Int)) (n := ((l.length : Nat) : Int)) (b := false) rfl rfl (decide_eq_false (by omega))) ?_
  simp only [pS, pN, pA, pC, pZ]
  refine do_ rfl (.bool false) (ex_move _) ?_
  simp only [pS, pN, pA, pC, pZ]
  refine doN (wanted_no rfl rfl rfl (c := false) rfl (by decide)) ?_
  simp only [pS, pN, pA, pC, pZ]
  refine doN (wanted_no rfl rfl rfl (c := false) rfl (by decide)) ?_
  simp only [pS, pN, pA, pC, pZ]
  refine doN (wanted_no rfl rfl rfl (c := false) rfl (by decide)) ?_
  simp only [pS, pN, pA, pC, pZ]
  refine do_ rfl (.bool false) (ex_pick (b := false) rfl) ?_
  simp only [pS, pN, pA, pC, pZ]
  refine wl_nil (hK16 _ _ ?_)
  refine wp_cond_false rfl ?_
  refine wp_exit ?_
  refine hK3 _ _ ?_
  refine wp_seq_k (fun K67 hK67 => region_wl ?_)
  refine do_ rfl v (ex_move _) ?_
  simp only [pS, pN, pA, pC, pZ]
  refine do_ rfl v (ex_assign _) ?_
  simp only [pS, pN, pA, pC, pZ]
  refine wl_nil (hK67 _ _ ?_)
  refine wp_ret ?_
  (try simp only [Exit.then, Exit.inBlock, ↓reduceIte, Nat.reduceEqDiff])
  refine bodyPost_ret (v := v) ?_ rfl ?_
  ·exact res_t rfl rfl
  ·have hend : writesN l i = writesN l m := by first | exact writesN_end (by omega) him | exact congrArg _ (by omega)
   obtain ⟨F68, S69, le70, hv71⟩ := St.freeze S12 (i := 0) rfl (Nat.le_refl _)
   have S69 : St w F w11 F68 [] [] := S69
   have hv71 : Wrs _ v (writesN l i) := hv71
   rw [hend] at hv71
   exact ⟨_, _, rfl, S69.gr, hv71⟩
end Go.Proofs.YtikklmjengkliaaDoor
namespace Go.Proofs.YtikklmjengkliaaDoor
open Go.RowKit
set_option maxRecDepth 100000
set_option linter.unusedVariables false
set_option linter.unusedSimpArgs false
theorem apply_is {F : Fz} {w : World} {v u : Value} {l g : Forest} {ws : List Wr} {e : Int} (hs : Sat w F) (hv : Tns F v l) (hw : Wrs F u ws) (ok1 : ForestOk 60 l) (hb : ∀ r ∈ ws, WrOk r) (h : applyE l ws = (e, g)) :
    Calls Tryd.prog 16 #[v, u] w (Gives w F (TnsE g e)) := by
  have := apply_spec F w v u l ws hs hv hw ok1 fun r hr => by have h := hb r hr; have := h.name.2; have := h.key2; have := h.value; omega
  rwa [h] at this
theorem applyE_one {l : Forest} {r : Wr} (h : WrOk r) : applyE l [r] = match writeF l r with | some g => (0, g) | none => (11, []) := by
  unfold applyE
  rw [if_neg (by simp), applyR_ok (by simpa using h), applyF_one]
  cases writeF l r <;> rfl
theorem forestW_take {ws : List Wr} {k : Nat} {p : Wr} (h : ws[k]? = some p) : forestW (ws.take (k + 1)) = (writeF (forestW (ws.take k)) p).getD (forestW (ws.take k)) := by
  obtain ⟨hk, rfl⟩ := List.getElem?_eq_some_iff.1 h
  rw [List.take_succ_eq_append_getElem hk, forestW_snoc, applyF_one]
theorem forestW_ok60 {ws : List Wr} (h : ∀ w ∈ ws, WrOk w) (hl : ws.length ≤ 60) (k : Nat) : ForestOk 60 (forestW (ws.take k)) :=
  (forestW_ok fun w hw => h w (List.mem_of_mem_take hw)).mono (by rw [List.length_take]; omega)
theorem one_of {α : Type} {ws : List α} {k : Nat} {p : α} (h : ws[k]? = some p) : (ws.take (k + 1)).drop k = [p] := by
  obtain ⟨hk, rfl⟩ := List.getElem?_eq_some_iff.1 h
  rw [List.take_succ_eq_append_getElem hk, List.drop_append_of_le_length (by rw [List.length_take]; omega), List.drop_of_length_le (by rw [List.length_take]; omega)]
  rfl
set_option maxHeartbeats 8000000 in
theorem forest_spec (F : Fz) (w : World) (v : Value) (l : List Pl) (m : Nat) (hs : Sat w F) (hv : Pls F v l) (hm : m ≤ 60) :
    Calls Tryd.prog 14 #[v, .int .i64 (m : Nat)] w (Gives w F fun F' u => Tns F' u (forestW (writesN l m))) := by
 obtain ⟨a, c, rfl, hc1, hc2⟩ := Sl.shape hv
 unfold maxLen at hc2
 have S := St.start hs
 go_enter Tryd.func14, Tryd.ntmps14
 refine wp_seq_k (fun K1 hK1 => region_wl ?_)
 refine do_ rfl (.slice none 0 0) (ex_assign _) ?_
 simp only [pS, pN, pA, pC, pZ]
 refine wl_nil (hK1 _ _ ?_)
 refine wp_seq_k (fun K2 hK2 => region_wl ?_)
 refine do_ rfl (.slice none 0 0) (ex_assign _) ?_
 simp only [pS, pN, pA, pC, pZ]
 refine wl_nil (hK2 _ _ ?_)
 refine wp_seq_k (fun K3 hK3 => region_wl ?_)
 refine do_ rfl (.slice a l.length c) (ex_move _) ?_
 simp only [pS, pN, pA, pC, pZ]
 refine do_ rfl (.int .i64 ((m : Nat) : Int)) (ex_move _) ?_
 simp only [pS, pN, pA, pC, pZ]
 refine stGives S rfl (ex_fn (vs := #[(.slice a l.length c), (.int .i64 ((m : Nat) : Int))]) (map2 rfl rfl) rfl (ent_37 _ _)) (writes_spec _ _ _ l m (S).sat hv (by omega)) ?_
 intro v9 w4 F6 S5 le7 R8
 obtain ⟨a10, c11, rfl, h12, h13⟩ := Sl.shape R8
 unfold maxLen at h13
 simp only [pS, pN, pA, pC, pZ]
 refine do_ rfl (.slice a10 (writesN l m).length c11) (ex_assign _) ?_
 simp only [pS, pN, pA, pC, pZ]
 refine wl_nil (hK3 _ _ ?_)
 refine wp_seq_k (fun K14 hK14 => ?_)
 refine wp_seq_k (fun K15 hK15 => ?_)
 have hwl := writesN_len l m
 have hwok := writesN_ok l m
 refine region_wl ?_
 refine do_ rfl (.int .i64 0) (ex_assign _) ?_
 simp only [pS, pN, pA, pC, pZ]
 refine wl_nil (hK15 _ _ ?_)
 refine wp_block ?_
 refine wp_loop_g (fun mm aa w18 => ∃ (k : Nat) (v : Value) (F16 : Fz) (u17 : Nat → Value), mm = (writesN l m).length - k ∧ u17 = slots aa ∧ aa = ⟨#[(.slice a l.length c), (.int .i64 ((m : Nat) : Int)), undef, undef, (.slice none 0 0), v, (.slice a10 (writesN l m).length c11), (.int .i64 ((k : Nat) : Int)), (u17 8), (u17 9), (.slice a l.length c), (.int .i64 ((m : Nat) : Int)), (.slice a10 (writesN l m).length c11), (u17 13), (u17 14), (u17 15), (u17 16), (u17 17), (u17 18), (u17 19), (u17 20), (u17 21), (u17 22), (u17 23), (u17 24), (u17 25), (u17 26), (u17 27), (u17 28), (u17 29), (u17 30), (u17 31), undef], []⟩ ∧ St w F w18 F16 [] [] ∧ Le F6 F16 ∧ (k ≤ (writesN l m).length) ∧ (Tns F16 v (forestW ((writesN l m).take k)))) _ ⟨0, (.slice none 0 0), F6, _, rfl, rfl, rfl, S5, Le.refl _, (by omega), (Sl.nil _ _ _)⟩ ?_
 rintro m19 a20 w21 ⟨k, v, F16, u17, rfl, -, rfl, S22, le23, hk, hvF⟩ K24 hK24
 refine wp_seq_k (fun K25 hK25 => ?_)
 refine wp_seq_k (fun K26 hK26 => region_wl ?_)
 refine do_ rfl (.int .i64 ((k : Nat) : Int)) (ex_move _) ?_
 simp only [pS, pN, pA, pC, pZ]
 refine do_ rfl (.slice a10 (writesN l m).length c11) (ex_move _) ?_
 simp only [pS, pN, pA, pC, pZ]
 refine do_ rfl (.int .i64 (((writesN l m).length : Nat) : Int)) (ex_len Tryd.underlying37 rfl) ?_
 simp only [pS, pN, pA, pC, pZ]
 by_cases hc16 : k < (writesN l m).length
 ·refine do_ rfl (.bool true) (ex_lss (m := ((k : Nat) : Int)) (n := (((writesN l m).length : Nat) : Int)) (b := true) rfl rfl (decide_eq_true (by omega))) ?_
  simp only [pS, pN, pA, pC, pZ]
  refine wl_nil (hK26 _ _ ?_)
  refine wp_cond_true rfl ?_
  refine wp_skip ?_
  refine hK25 _ _ ?_
  refine wp_seq_k (fun K27 hK27 => ?_)
  refine wp_block ?_
  refine wp_seq_k (fun K28 hK28 => ?_)
  obtain ⟨p, hp⟩ : ∃ p, (writesN l m)[k]? = some p := ⟨(writesN l m)[k], List.getElem?_eq_getElem hc16⟩
  have hpo := hwok p (List.mem_of_getElem? hp)
  have okk := forestW_ok60 hwok (by omega) k
  cases hwf : writeF (forestW ((writesN l m).take k)) p with
  | none =>
   have hae := applyE_one (l := (forestW ((writesN l m).take k))) hpo
   rw [hwf] at hae
   refine region_wl ?_
   refine do_ rfl v (ex_move _) ?_
   simp only [pS, pN, pA, pC, pZ]
   refine do_ rfl (.slice a10 (writesN l m).length c11) (ex_move _) ?_
   simp only [pS, pN, pA, pC, pZ]
   refine do_ rfl (.int .i64 ((k : Nat) : Int)) (ex_move _) ?_
   simp only [pS, pN, pA, pC, pZ]
   refine do_ rfl (.int .i64 ((k : Nat) : Int)) (ex_move _) ?_
   simp only [pS, pN, pA, pC, pZ]
   refine do_ rfl (.int .i64 (((k + 1) : Nat) : Int)) (ex_add (m := ((k : Nat) : Int)) (n := (1 : Int)) (r := (((k + 1) : Nat) : Int)) rfl rfl (by omega) (by omega) (by omega)) ?_
   simp only [pS, pN, pA, pC, pZ]
   have r29 : Wrs F16 (.slice (if c11 = k then a10 else a10.map (·.add (k * 4))) ((k + 1) - k) (c11 - k)) [p] := by have h := Sl.dropAny (m := k) (by decide) (Sl.takeN (m := (k + 1)) (R8.mono le23) (by omega)) (by omega); rwa [one_of hp] at h
   refine do_ rfl (.slice (if c11 = k then a10 else a10.map (·.add (k * 4))) ((k + 1) - k) (c11 - k)) (ex_slice (l := k) (h := (k + 1)) (sz := 4) Tryd.underlying37 rfl (sizeof_36 _) (.inr ⟨_, rfl, rfl⟩) (.inr ⟨_, rfl, rfl⟩) (by omega) (by omega) (rfl)) ?_
   simp only [pS, pN, pA, pC, pZ]
   refine stGives S22 rfl (ex_fn (vs := #[v, (.slice (if c11 = k then a10 else a10.map (·.add (k * 4))) ((k + 1) - k) (c11 - k))]) (map2 rfl rfl) rfl (ent_16 _ _)) (apply_is (S22).sat hvF r29 okk (by simpa using hpo) hae) ?_
   intro v35 w30 F32 S31 le33 R34
   obtain ⟨_, rfl, r38⟩ := R34
   obtain ⟨a36, c37, rfl, h39, h40⟩ := Sl.shape r38
   unfold maxLen at h40
   simp only [pS, pN, pA, pC, pZ]
   refine do_ rfl (.tuple #[(.slice a36 ([] : Forest).length c37), (.int .i64 11)]) (ex_move _) ?_
   simp only [pS, pN, pA, pC, pZ]
   refine do_ rfl (.slice a36 ([] : Forest).length c37) (ex_extract rfl rfl) ?_
   simp only [pS, pN, pA, pC, pZ]
   refine do_ rfl (.int .i64 11) (ex_extract rfl rfl) ?_
   simp only [pS, pN, pA, pC, pZ]
   refine do_ rfl (.slice a36 ([] : Forest).length c37) (ex_assign _) ?_
   simp only [pS, pN, pA, pC, pZ]
   refine do_ rfl (.int .i64 11) (ex_assign _) ?_
   simp only [pS, pN, pA, pC, pZ]
   refine wl_nil (hK28 _ _ ?_)
   refine wp_seq_k (fun K41 hK41 => region_wl ?_)
   refine do_ rfl (.int .i64 11) (ex_move _) ?_
   simp only [pS, pN, pA, pC, pZ]
   refine do_ rfl (.bool false) (ex_eql (b := false) rfl rfl (by decide)) ?_
   simp only [pS, pN, pA, pC, pZ]
   refine wl_nil (hK41 _ _ ?_)
   refine wp_cond_false rfl ?_
   refine wp_skip ?_
   refine hK27 _ _ ?_
   refine region_wl ?_
   refine do_ rfl (.int .i64 ((k : Nat) : Int)) (ex_move _) ?_
   simp only [pS, pN, pA, pC, pZ]
   refine do_ rfl (.int .i64 (((k + 1) : Nat) : Int)) (ex_add (m := ((k : Nat) : Int)) (n := (1 : Int)) (r := (((k + 1) : Nat) : Int)) rfl rfl (by omega) (by omega) (by omega)) ?_
   simp only [pS, pN, pA, pC, pZ]
   refine do_ rfl (.int .i64 (((k + 1) : Nat) : Int)) (ex_assign _) ?_
   simp only [pS, pN, pA, pC, pZ]
   refine wl_nil ?_
   exact hK24 _ _ _ (by omega) ⟨(k + 1), v, F32, _, rfl, rfl, rfl, S31, (le23.trans le33), (by omega), (by rw [forestW_take hp, hwf]; exact (hvF.mono le33))⟩
  | some g =>
   have hae := applyE_one (l := (forestW ((writesN l m).take k))) hpo
   rw [hwf] at hae
   refine region_wl ?_
   refine do_ rfl v (ex_move _) ?_
   simp only [pS, pN, pA, pC, pZ]
   refine do_ rfl (.slice a10 (writesN l m).length c11) (ex_move _) ?_
   simp only [pS, pN, pA, pC, pZ]
   refine do_ rfl (.int .i64 ((k : Nat) : Int)) (ex_move _) ?_
   simp only [pS, pN, pA, pC, pZ]
   refine do_ rfl (.int .i64 ((k : Nat) : Int)) (ex_move _) ?_
   simp only [pS, pN, pA, pC, pZ]
   refine do_ rfl (.int .i64 (((k + 1) : Nat) : Int)) (ex_add (m := ((k : Nat) : Int)) (n := (1 : Int)) (r := (((k + 1) : Nat) : Int)) rfl rfl (by omega) (by omega) (by omega)) ?_
   simp only [pS, pN, pA, pC, pZ]
   have r42 : Wrs F16 (.slice (if c11 = k then a10 else a10.map (·.add (k * 4))) ((k + 1) - k) (c11 - k)) [p] := by have h := Sl.dropAny (m := k) (by decide) (Sl.takeN (m := (k + 1)) (R8.mono le23) (by omega)) (by omega); rwa [one_of hp] at h
   refine do_ rfl (.slice (if c11 = k then a10 else a10.map (·.add (k * 4))) ((k + 1) - k) (c11 - k)) (ex_slice (l := k) (h := (k + 1)) (sz := 4) Tryd.underlying37 rfl (sizeof_36 _) (.inr ⟨_, rfl, rfl⟩) (.inr ⟨_, rfl, rfl⟩) (by omega) (by omega) (rfl)) ?_
   simp only [pS, pN, pA, pC, pZ]
   refine stGives S22 rfl (ex_fn (vs := #[v, (.slice (if c11 = k then a10 else a10.map (·.add (k * 4))) ((k + 1) - k) (c11 - k))]) (map2 rfl rfl) rfl (ent_16 _ _)) (apply_is (S22).sat hvF r42 okk (by simpa using hpo) hae) ?_
   intro v48 w43 F45 S44 le46 R47
   obtain ⟨_, rfl, r51⟩ := R47
   obtain ⟨a49, c50, rfl, h52, h53⟩ := Sl.shape r51
   unfold maxLen at h53
   have h52 : g.length ≤ c50 := h52
   have r51 : Tns _ (.slice a49 g.length c50) g := r51
   simp only [pS, pN, pA, pC, pZ]
   refine do_ rfl (.tuple #[(.slice a49 g.length c50), (.int .i64 0)]) (ex_move _) ?_
   simp only [pS, pN, pA, pC, pZ]
   refine do_ rfl (.slice a49 g.length c50) (ex_extract rfl rfl) ?_
   simp only [pS, pN, pA, pC, pZ]
   refine do_ rfl (.int .i64 0) (ex_extract rfl rfl) ?_
   simp only [pS, pN, pA, pC, pZ]
   refine do_ rfl (.slice a49 g.length c50) (ex_assign _) ?_
   simp only [pS, pN, pA, pC, pZ]
   refine do_ rfl (.int .i64 0) (ex_assign _) ?_
   simp only [pS, pN, pA, pC, pZ]
   refine wl_nil (hK28 _ _ ?_)
   refine wp_seq_k (fun K54 hK54 => region_wl ?_)
   refine do_ rfl (.int .i64 0) (ex_move _) ?_
   simp only [pS, pN, pA, pC, pZ]
   refine do_ rfl (.bool true) (ex_eql (b := true) rfl rfl (by decide)) ?_
   simp only [pS, pN, pA, pC, pZ]
   refine wl_nil (hK54 _ _ ?_)
   refine wp_cond_true rfl ?_
   refine region_wl ?_
   refine do_ rfl (.slice a49 g.length c50) (ex_move _) ?_
   simp only [pS, pN, pA, pC, pZ]
   refine do_ rfl (.slice a49 g.length c50) (ex_assign _) ?_
   simp only [pS, pN, pA, pC, pZ]
   refine wl_nil (hK27 _ _ ?_)
   refine region_wl ?_
   refine do_ rfl (.int .i64 ((k : Nat) : Int)) (ex_move _) ?_
   simp only [pS, pN, pA, pC, pZ]
   refine do_ rfl (.int .i64 (((k + 1) : Nat) : Int)) (ex_add (m := ((k : Nat) : Int)) (n := (1 : Int)) (r := (((k + 1) : Nat) : Int)) rfl rfl (by omega) (by omega) (by omega)) ?_
   simp only [pS, pN, pA, pC, pZ]
   refine do_ rfl (.int .i64 (((k + 1) : Nat) : Int)) (ex_assign _) ?_
   simp only [pS, pN, pA, pC, pZ]
   refine wl_nil ?_
   exact hK24 _ _ _ (by omega) ⟨(k + 1), (.slice a49 g.length c50), F45, _, rfl, rfl, rfl, S44, (le23.trans le46), (by omega), (by rw [forestW_take hp, hwf]; exact r51)⟩
 ·refine do_ rfl (.bool false) (ex_lss (m := ((k : Nat) : Int)) (n := (((writesN l m).length : Nat) : Int)) (b := false) rfl rfl (decide_eq_false (by omega))) ?_
  simp only [pS, pN, pA, pC, pZ]
  refine wl_nil (hK26 _ _ ?_)
  refine wp_cond_false rfl ?_
  refine wp_exit ?_
  refine hK14 _ _ ?_
  refine wp_seq_k (fun K55 hK55 => region_wl ?_)
  refine do_ rfl v (ex_move _) ?_
  simp only [pS, pN, pA, pC, pZ]
  refine do_ rfl v (ex_assign _) ?_
  simp only [pS, pN, pA, pC, pZ]
  refine wl_nil (hK55 _ _ ?_)
  refine wp_ret ?_
  (try simp only [Exit.then, Exit.inBlock, ↓reduceIte, Nat.reduceEqDiff])
  refine bodyPost_ret (v := v) ?_ rfl ?_
  ·exact res_t rfl rfl
  ·have hend : (writesN l m).take k = (writesN l m) := List.take_of_length_le (by omega)
   exact ⟨_, _, rfl, S22.gr, by rw [← hend]; exact hvF⟩
end Go.Proofs.YtikklmjengkliaaDoor
namespace Go.Proofs.YtikklmjengkliaaDoor
open Go.RowKit
set_option maxRecDepth 100000
set_option linter.unusedVariables false
set_option linter.unusedSimpArgs false
theorem forestCheckOk_spec (F : Fz) (w : World) (v : Value) (l : Forest) (hs : Sat w F) (hv : Tns F v l) (ok : ForestOk 60 l) :
    Calls Tryd.prog 38 #[v] w (Tells w (.int .i64 0)) := by
  have := forestCheck_spec F w v l hs hv
  rwa [forestE_ok.2 ok] at this
end Go.Proofs.YtikklmjengkliaaDoor
namespace Go.Proofs.YtikklmjengkliaaDoor
open Go.RowKit
set_option linter.unusedVariables false
section
variable {α β : Type} {k k2 E E2 base base2 : Nat} {R : Fz → List Value → α → Prop} {R2 : Fz → List Value → β → Prop} {w0 W w w' : World} {F0 F F' : Fz} {L : List Blk} {M : List RowP} {v v2 : Value} {l : List α} {l2 : List β}
/-- What a call has made that is a row of its own. -/
def MadeO {α : Type} (W : World) (F : Fz) (k : Nat) (R : Fz → List Value → α → Prop) (E : Nat) (l : List α) (v : Value) (w : World) : Prop := ∃ F', Gr W F w F' ∧ Own k R E W.heap.size w F' v l
theorem MadeO.stable (hR : ∀ F F' x p, Le F F' → R F x p → R F' x p) (W : World) (F : Fz) (k E : Nat) (l : List α) : Stable (MadeO W F k R E l) :=
  fun v w w' ⟨F', g, h⟩ hb => ⟨F', g.trans (Gr.of_below g.sat hb), h.gr hR g.sat (Gr.of_below g.sat hb)⟩
/-- A block that lies beside what a call has made as a row. -/
theorem Own.dropF (h : Own k R E base w F v l) {n : Nat} (hx : ∀ cs p, R F cs p → R (Proofs.YtikklmjengkliaaDoor.dropF F n) cs p) : Own k R E base w (Proofs.YtikklmjengkliaaDoor.dropF F n) v l := by
  obtain ⟨el, h1, h2, h3⟩ := h.ex
  refine ⟨⟨el, h1, h2.imp hx, h3⟩, fun g hg => ?_⟩
  unfold Proofs.YtikklmjengkliaaDoor.dropF
  split
  · rfl
  · exact h.out g hg
end
section
variable {w : World} {F : Fz} {n : Nat} {cs : List Value} {T : TypeId}
theorem WrC.dropF (hs : Sat w F) (hb : w.heap[n]? = some (.cells cs.toArray T (0, 0))) (hc : ∀ u ∈ cs, ∀ x, u ≠ bv x) (c : List Value) (p : Wr) (h : WrC F c p) : WrC (Proofs.YtikklmjengkliaaDoor.dropF F n) c p := by
  obtain ⟨a0, a1, a2, a3, rfl, h0, h1, h2, h3⟩ := h
  exact ⟨a0, a1, a2, a3, rfl, h0.dropF hs hb hc, h1.dropF hs hb hc, h2, h3.dropF hs hb hc⟩
theorem RdC.dropF (hs : Sat w F) (hb : w.heap[n]? = some (.cells cs.toArray T (0, 0))) (hc : ∀ u ∈ cs, ∀ x, u ≠ bv x) (c : List Value) (p : Rd) (h : RdC F c p) : RdC (Proofs.YtikklmjengkliaaDoor.dropF F n) c p := by
  obtain ⟨a0, a1, a2, a3, rfl, h0, h1, h2, h3⟩ := h
  exact ⟨a0, a1, a2, a3, rfl, h0.dropF hs hb hc, h1.dropF hs hb hc, h2, h3.dropF hs hb hc⟩
end
theorem FactsAt.getR {md : Region.Mode} {ops : Array Oper} {W : World} {F : Fz} {L : List (Nat × Mark)} {Vs : Vals} {w : World} {j : Nat} (h : FactsAt md ops (specOf W F L) j Vs w) (i : Nat) {v : Value} {R : Value → World → Prop} (ha : ancB md ops ops.size j i = true) (hv : Vs i = some v) (hL : specOf W F L i = .rel R) : R v w := by
  have := h i v ha hv
  rw [hL] at this
  exact this
theorem gives_of_own {P : Program} {f : FuncId} {vs : Array Value} {α : Type} {k E : Nat} {R : Fz → List Value → α → Prop} (hR : ∀ F F' x p, Le F F' → R F x p → R F' x p) {w : World} {F : Fz} {l : List α} (h : Calls P f vs w (GivesO w F k R E l)) : Calls P f vs w (Gives w F fun F' u => Sl k R F' u l) :=
  h.mono fun e w' ⟨v, F', he, g, ho⟩ => by
    obtain ⟨F2, g2, _, h2⟩ := ho.freeze hR g (Nat.le_refl _)
    exact ⟨v, F2, he, g2, h2⟩
end Go.Proofs.YtikklmjengkliaaDoor
namespace Go.Proofs.YtikklmjengkliaaDoor
open Go.RowKit
set_option linter.unusedVariables false
section
variable {P : Program} {ops : Array Oper} {md : Region.Mode} {C : World → Prop} {Sp : Nat → OpSpec}
/-- The walk in an order of our own. -/
def wpGP (P : Program) (md : Region.Mode) (ops : Array Oper) (C : World → Prop) (Sp : Nat → OpSpec) (Lq : Act → Vals → Prop) : List (Nat × Oper) → Act → Vals → Prop
  | [], a, Vs => Lq a Vs
  | (k, o) :: l, a, Vs => if Region.wanted o (yielded ops a.tmps) = true then ∃ S, Ob P md ops C Sp k o a Vs S ∧ ∀ v, S v → wpGP P md ops C Sp Lq l (a.put o.dst v) (next (Sp k) Vs k v) else wpGP P md ops C Sp Lq l (a.put o.dst undef) Vs
def seqL (md : Region.Mode) (ops : Array Oper) : List Nat → Array Bool → Bool
  | [], listed => (Region.ready md ops listed).isEmpty
  | k :: ks, listed => decide (Region.ready md ops listed = [k]) && seqL md ops ks (listed.setIfInBounds k true)
theorem seqL_ready {T : List Nat} {listed : Array Bool} (h : seqL md ops T listed = true) : ∀ j ∈ Region.ready md ops listed, j ∈ T := by
  cases T with
  | nil => intro j hj; simp only [seqL, List.isEmpty_iff] at h; rw [h] at hj; cases hj
  | cons t T =>
    intro j hj
    simp only [seqL, Bool.and_eq_true, decide_eq_true_eq] at h
    rw [h.1] at hj
    have : j = t := by simpa using hj
    subst this
    exact List.mem_cons_self ..
theorem wpAny_of_seqL {Q' : Exit → Act → World → Prop} : ∀ (l : List (Nat × Oper)) (listed : Array Bool) (a : Act) (w : World), (∀ p ∈ l, ops[p.1]? = some p.2) →
    seqL md ops (l.map (·.1)) listed = true → wpList P ops Q' (l.map (·.2)) a w → wpAny P md ops Q' l.length listed a w
  | [], _, _, _, _, hB, h => ⟨by simpa [seqL] using hB, h⟩
  | (k, o) :: l, listed, a, w, hl, hB, h => by
    have h0 : ops[k]? = some o := hl (k, o) (List.mem_cons_self ..)
    simp only [List.map_cons, seqL, Bool.and_eq_true, decide_eq_true_eq] at hB
    refine ⟨fun h1 => (by rw [hB.1] at h1; cases h1), fun i hi => ?_⟩
    rw [hB.1] at hi
    have hik : i = k := by simpa using hi
    subst hik
    have hw : wpOp P ops Q' i (wpList P ops Q' (l.map (·.2))) a w := by unfold wpOp; simp only [h0]; exact h
    exact wpOp_mono (fun a' w' h' => wpAny_of_seqL l _ a' w' (fun p hp => hl p (List.mem_cons_of_mem _ hp)) hB.2 h') hw
end
def opsAt (l : List Oper) : List Nat → List (Nat × Oper)
  | [] => []
  | k :: ks => match l[k]? with
    | some o => (k, o) :: opsAt l ks
    | none => opsAt l ks
theorem opsAt_at {l : List Oper} : ∀ {ks : List Nat} {p : Nat × Oper}, p ∈ opsAt l ks → l.toArray[p.1]? = some p.2
  | [], p, h => by cases h
  | k :: ks, p, h => by
    unfold opsAt at h
    split at h
    · rename_i o ho
      rcases List.mem_cons.1 h with rfl | h
      · simpa using ho
      · exact opsAt_at h
    · exact opsAt_at h
structure GP (P : Program) (md : Region.Mode) (ops : Array Oper) (C : World → Prop) (Sp : Nat → OpSpec) (Lq : Act → Vals → Prop) (l : List (Nat × Oper)) (a : Act) (Vs : Vals) : Prop where
  out : wpGP P md ops C Sp Lq l a Vs
section
variable {P : Program} {ops : Array Oper} {md : Region.Mode} {C : World → Prop} {Sp : Nat → OpSpec} {Lq : Act → Vals → Prop} {o : Oper} {l : List (Nat × Oper)} {k : Nat} {a : Act} {Vs : Vals}
theorem gp_nil (h : Lq a Vs) : GP P md ops C Sp Lq [] a Vs := ⟨h⟩
theorem gp_pure (hw : Region.wanted o (yielded ops a.tmps) = true) (hs : Sp k = .pure) (v : Value) (h : ∀ w, C w → PureAt P o a w v) (hn : GP P md ops C Sp Lq l (a.put o.dst v) Vs) : GP P md ops C Sp Lq ((k, o) :: l) a Vs := by
  refine ⟨?_⟩
  unfold wpGP
  rw [if_pos hw]
  refine ⟨fun u => u = v, by unfold Ob; rw [hs]; exact ⟨v, rfl, h⟩, fun u hu => ?_⟩
  subst hu
  rw [hs]
  exact hn.out
theorem gp_const (hw : Region.wanted o (yielded ops a.tmps) = true) {v : Value} (hs : Sp k = .const v) (h : ∀ w, C w → FactsAt md ops Sp k Vs w → Does P o a w (IsPost v w)) (hn : GP P md ops C Sp Lq l (a.put o.dst v) Vs) : GP P md ops C Sp Lq ((k, o) :: l) a Vs := by
  refine ⟨?_⟩
  unfold wpGP
  rw [if_pos hw]
  refine ⟨fun u => u = v, by unfold Ob; rw [hs]; exact ⟨rfl, h⟩, fun u hu => ?_⟩
  subst hu
  rw [hs]
  exact hn.out
end
/-! Late. -/
/-- The store, behind which nothing of the region is left to look at the memory. -/
structure LT (P : Program) (ops : Array Oper) (Q : Exit → Act → World → Prop) (os : Oper) (rest : List Oper) (a : Act) (w : World) : Prop where
  out : ∃ w', os.guard = none ∧ os.dst = none ∧ (execOp a.eval os).run P w = .ok .skip w' ∧ wpList P ops Q rest a w'
section
variable {P : Program} {ops : Array Oper} {md : Region.Mode} {C : World → Prop} {Sp : Nat → OpSpec}
def wpAnyH (P : Program) (md : Region.Mode) (ops : Array Oper) (C : World → Prop) (Sp : Nat → OpSpec) (s : Nat) (L E : Array Bool → Act → Vals → Prop) : Nat → Array Bool → Act → Vals → Prop
  | 0, listed, a, Vs => L listed a Vs
  | f + 1, listed, a, Vs => Region.ready md ops listed ≠ [] ∧ ∀ i ∈ Region.ready md ops listed, (i ≠ s → gOp P md ops C Sp i (wpAnyH P md ops C Sp s L E f (listed.setIfInBounds i true)) a Vs) ∧ (i = s → f = 0 ∧ E listed a Vs)
theorem wpAnyH_first (hC : ∃ w, C w) {i s : Nat} {oi : Oper} {T : List Nat} {L E : Array Bool → Act → Vals → Prop} (hi : ops[i]? = some oi) (hsel : ∀ (j : Nat) (o : Oper) cs b, ops[j]? = some o → o.op ≠ .select cs b)
    (hdone : ∀ listed a Vs, L listed a Vs → ∀ j ∈ Region.ready md ops listed, j ∈ T) (hT : ∀ t ∈ T, ancB md ops ops.size t i = true) (hsT : s ∈ T) (his : i ≠ s) :
    ∀ (f : Nat) (listed : Array Bool) (a : Act) (Vs : Vals), HeadInv md ops ops.size listed →
      (∀ j oj, ops[j]? = some oj → j ≠ i → listed.getD j true = false → (∀ e ∈ oj.after, Region.binds md e = true → e.on ≠ i) → oi.apart ops oj = true) →
      i ∈ Region.ready md ops listed →
      gOp P md ops C Sp i (wpAnyH P md ops C Sp s L E f (listed.setIfInBounds i true)) a Vs → wpAnyH P md ops C Sp s L E (f + 1) listed a Vs := by
  intro f
  induction f with
  | zero =>
    intro listed a Vs inv _ hr H
    have hun := (mem_ready.1 hr).1
    refine ⟨fun h => (by rw [h] at hr; cases hr), fun j hj => ?_⟩
    by_cases hji : j = i
    · subst hji; exact ⟨fun _ => H, fun e => absurd e his⟩
    · obtain ⟨a', Vs', hL⟩ := gOp_some H
      have h1 := hdone _ _ _ hL j (ready_mono hj hji)
      have h2 := anc_ready inv hj _ _ (hT j h1)
      rw [getD_both hun] at h2
      cases h2
  | succ f ih =>
    intro listed a Vs inv hfree hr H
    have hun := (mem_ready.1 hr).1
    refine ⟨fun h => (by rw [h] at hr; cases hr), fun j hj => ?_⟩
    obtain ⟨hjun, oj, hoj, hall⟩ := mem_ready.1 hj
    have hjn : j < ops.size := (Array.getElem?_eq_some_iff.1 hoj).1
    by_cases hji : j = i
    · subst hji; exact ⟨fun _ => H, fun e => absurd e his⟩
    · by_cases hjs : j = s
      · subst hjs
        have h2 := anc_ready inv hj _ _ (hT j hsT)
        rw [getD_both hun] at h2
        cases h2
      · refine ⟨fun _ => ?_, fun e => absurd e hjs⟩
        have hnot : ∀ e ∈ oj.after, Region.binds md e = true → e.on ≠ i := fun e he hb heq => by
          have h1 := hall e he hb
          rw [heq, getD_both hun] at h1
          cases h1
        have a1 : ancB md ops ops.size j i = false := by
          cases hx : ancB md ops ops.size j i with
          | false => rfl
          | true => have := anc_ready inv hj _ _ hx; rw [getD_both hun] at this; cases this
        have a2 : ancB md ops ops.size i j = false := by
          cases hx : ancB md ops ops.size i j with
          | false => rfl
          | true => have := anc_ready inv hr _ _ hx; rw [getD_both hjun] at this; cases this
        have H1 : gOp P md ops C Sp i (gOp P md ops C Sp j (wpAnyH P md ops C Sp s L E f ((listed.setIfInBounds i true).setIfInBounds j true))) a Vs :=
          gOp_mono (fun a' Vs' h => (h.2 j (ready_mono hj hji)).1 hjs) H
        have H2 := gOp_swap hC hi hoj (Ne.symm hji) (hfree j oj hoj hji hjun hnot) (fun cs b => hsel i oi cs b hi) (fun cs b => hsel j oj cs b hoj) a1 a2 H1
        have hfree' : ∀ k ok, ops[k]? = some ok → k ≠ i → (listed.setIfInBounds j true).getD k true = false →
            (∀ e ∈ ok.after, Region.binds md e = true → e.on ≠ i) → oi.apart ops ok = true := fun k ok hk hki hun' hno => by
          refine hfree k ok hk hki ?_ hno
          by_cases hjk : j = k
          · subst hjk; exact hjun
          · rw [getD_set_ne true hjk] at hun'; exact hun'
        refine gOp_mono (fun a' Vs' h3 => ih (listed.setIfInBounds j true) a' Vs' (inv.set hj hjn) hfree' (ready_mono hr (Ne.symm hji)) ?_) H2
        rw [Array.setIfInBounds_comm _ _ hji]
        exact h3
/-- What is left when only the pure operation p, the store s and the tail are. -/
def LateD (P : Program) (md : Region.Mode) (ops : Array Oper) (Q : Exit → Act → World → Prop) (C : World → Prop) (Sp : Nat → OpSpec) (p : Nat) (op os : Oper) (tail : List Oper) (a : Act) (Vs : Vals) : Prop :=
  op.guard = none ∧ ∃ v, Sp p = .const v ∧ (∀ w, C w → FactsAt md ops Sp p Vs w → ∀ w1, PureAt P op a w1 v) ∧ ∀ w, C w → Facts Sp Vs w → LT P ops Q os tail (a.put op.dst v) w
def lateL (md : Region.Mode) (ops : Array Oper) (p s : Nat) (T : List Nat) (listed : Array Bool) : Bool :=
  ((Region.ready md ops listed).all fun j => j == p || j == s) && (Region.ready md ops listed).contains p && Region.free md ops listed p && seqL md ops (s :: T) (listed.setIfInBounds p true) && seqL md ops (p :: T) (listed.setIfInBounds s true)
def headH (md : Region.Mode) (ops : Array Oper) (p s : Nat) (T : List Nat) : List Nat → Array Bool → Bool
  | [], listed => lateL md ops p s T listed
  | k :: ks, listed => (Region.ready md ops listed).contains k && Region.free md ops listed k && headH md ops p s T ks (listed.setIfInBounds k true)
theorem does_of_pure {o : Oper} {a : Act} {w : World} {v : Value} (h : PureAt P o a w v) : Does P o a w (IsPost v w) := by
  unfold Does PureAt at *
  generalize (execOp a.eval o).run P w = r at *
  cases r with
  | ok n w' =>
    cases n <;> simp only [PureR] at h <;> simp only [DoesR]
    · obtain ⟨rfl, rfl⟩ := h; exact ⟨rfl, Below.refl _ _⟩
    · obtain ⟨rfl, rfl⟩ := h; exact ⟨rfl, Below.refl _ _⟩
  | halt x w' => simp only [PureR] at h
theorem wanted_free {o : Oper} {t : Array Value} (h : o.guard = none) : Region.wanted o (yielded ops t) = true := by unfold Region.wanted; rw [h]
theorem wpAnyH_list (hC : ∃ w, C w) {p s : Nat} {T : List Nat} {op os : Oper} {tail : List Oper} {Q : Exit → Act → World → Prop} (hp : ops[p]? = some op) (hps : p ≠ s) (hsel : Region.noSelect ops = true) :
    ∀ (l : List (Nat × Oper)) (listed : Array Bool) (a : Act) (Vs : Vals), (∀ q ∈ l, ops[q.1]? = some q.2) → (∀ t ∈ s :: T, ∀ q ∈ l, ancB md ops ops.size t q.1 = true) → (∀ q ∈ l, q.1 ≠ s) → HeadInv md ops ops.size listed →
    headH md ops p s T (l.map (·.1)) listed = true → wpGP P md ops C Sp (LateD P md ops Q C Sp p op os tail) l a Vs →
    wpAnyH P md ops C Sp s (fun listed' a' Vs' => seqL md ops (s :: T) listed' = true ∧ ∀ w, C w → Facts Sp Vs' w → LT P ops Q os tail a' w) (fun listed' a' Vs' => lateL md ops p s T listed' = true ∧ LateD P md ops Q C Sp p op os tail a' Vs') (l.length + 1) listed a Vs
  | [], listed, a, Vs, _, _, _, _, hB, h => by
    have hB0 := hB
    simp only [List.map_nil, headH, lateL, Bool.and_eq_true] at hB
    obtain ⟨⟨⟨⟨h1, h2⟩, h3⟩, h4⟩, h5⟩ := hB
    have hr : p ∈ Region.ready md ops listed := by simpa using h2
    refine ⟨fun e => (by rw [e] at hr; cases hr), fun j hj => ⟨fun hjs => ?_, fun e => ⟨rfl, hB0, h⟩⟩⟩
    have hj2 := List.all_eq_true.1 h1 j hj
    simp only [Bool.or_eq_true, beq_iff_eq] at hj2
    have hjp : j = p := hj2.resolve_right hjs
    subst hjp
    obtain ⟨hg, v, hs, hpu, hn⟩ := h
    unfold gOp
    simp only [hp]
    rw [if_pos (wanted_free hg)]
    refine ⟨fun u => u = v, ?_, fun u hu => ?_⟩
    · unfold Ob; rw [hs]; exact ⟨rfl, fun w hc hF => does_of_pure (hpu w hc hF w)⟩
    · subst hu
      rw [hs]
      exact ⟨h4, hn⟩
  | (k, o) :: l, listed, a, Vs, hl, hT, hns, inv, hB, h => by
    have h0 : ops[k]? = some o := hl (k, o) (List.mem_cons_self ..)
    have hkn : k < ops.size := (Array.getElem?_eq_some_iff.1 h0).1
    simp only [List.map_cons, headH, Bool.and_eq_true] at hB
    obtain ⟨⟨hr, hf⟩, hB'⟩ := hB
    have hr' : k ∈ Region.ready md ops listed := by simpa using hr
    have hg : gOp P md ops C Sp k (wpGP P md ops C Sp (LateD P md ops Q C Sp p op os tail) l) a Vs := by unfold gOp; simp only [h0]; exact h
    exact wpAnyH_first hC h0 (Region.noSelect_spec hsel) (fun listed' a' Vs' hL => seqL_ready hL.1) (fun t ht => hT t ht (k, o) (List.mem_cons_self ..)) (List.mem_cons_self ..) (hns (k, o) (List.mem_cons_self ..)) (l.length + 1) listed a Vs inv (Region.free_spec h0 hf) hr'
      (gOp_mono (fun a' Vs' h' => wpAnyH_list hC hp hps hsel l _ a' Vs' (fun p hp => hl p (List.mem_cons_of_mem _ hp)) (fun t ht p hp => hT t ht p (List.mem_cons_of_mem _ hp)) (fun q hq => hns q (List.mem_cons_of_mem _ hq)) (inv.set hr' hkn) hB' h') hg)
theorem wpAny_of_H (hst : ∀ i v w w', factOf (Sp i) v w → Below w.heap.size w w' → factOf (Sp i) v w') (hCE : ∀ w w', C w → Below w.heap.size w w' → C w') {s g : Nat} {L E : Array Bool → Act → Vals → Prop} {Q' : Exit → Act → World → Prop}
    (hL : ∀ listed a Vs w, C w → Facts Sp Vs w → L listed a Vs → wpAny P md ops Q' g listed a w)
    (hE : ∀ listed a Vs w, C w → Facts Sp Vs w → s ∈ Region.ready md ops listed → E listed a Vs → wpOp P ops Q' s (wpAny P md ops Q' g (listed.setIfInBounds s true)) a w) :
    ∀ (f : Nat) (listed : Array Bool) (a : Act) (Vs : Vals) (w : World), C w → Facts Sp Vs w → wpAnyH P md ops C Sp s L E f listed a Vs → wpAny P md ops Q' (f + g) listed a w
  | 0, listed, a, Vs, w, hc, hF, h => by rw [Nat.zero_add]; exact hL _ _ _ _ hc hF h
  | f + 1, listed, a, Vs, w, hc, hF, h => by
    rw [show f + 1 + g = (f + g) + 1 by omega]
    refine ⟨fun h0 => absurd h0 h.1, fun i hi => ?_⟩
    by_cases his : i = s
    · subst his
      obtain ⟨hf0, he⟩ := (h.2 i hi).2 rfl
      subst hf0
      rw [Nat.zero_add]
      exact hE listed a Vs w hc hF hi he
    have hg := (h.2 i hi).1 his
    unfold gOp at hg
    unfold wpOp
    split
    · rename_i e
      simp only [e] at hg
      exact wpAny_of_H hst hCE hL hE f _ a Vs w hc hF hg
    · rename_i o e
      simp only [e] at hg
      split
      · rename_i hw
        rw [if_pos hw] at hg
        obtain ⟨S, hS, hall⟩ := hg
        left
        unfold Ob at hS
        split at hS
        · rename_i es
          obtain ⟨v, rfl, hp⟩ := hS
          have hn := hall v rfl
          simp only [es, next] at hn
          exact Oper.wp_of_pure (hp w hc) (wpAny_of_H hst hCE hL hE f _ _ Vs w hc hF hn)
        · rename_i v es
          obtain ⟨rfl, hp⟩ := hS
          have hn := hall v rfl
          simp only [es, next] at hn
          refine Oper.wp_of_does (hp w hc fun i' v' _ hv => hF i' v' hv) fun u w' ⟨hu, hb⟩ => ?_
          subst hu
          exact wpAny_of_H hst hCE hL hE f _ _ Vs w' (hCE w w' hc hb) (fun i' v' hv => hst i' v' w w' (hF i' v' hv) hb) hn
        · rename_i R es
          obtain ⟨rfl, hp⟩ := hS
          refine Oper.wp_of_does (hp w hc fun i' v' _ hv => hF i' v' hv) fun u w' ⟨hu, hb⟩ => ?_
          have hn := hall u trivial
          refine wpAny_of_H hst hCE hL hE f _ _ _ w' (hCE w w' hc hb) (fun i' v' hv => ?_) hn
          simp only [es, next] at hv
          unfold upd at hv
          split at hv
          · rename_i e'
            subst e'
            cases hv
            simp only [es, factOf]
            exact hu
          · exact hst i' v' w w' (hF i' v' hv) hb
      · rename_i hw
        rw [if_neg hw] at hg
        exact wpAny_of_H hst hCE hL hE f _ _ Vs w hc hF hg
theorem wpList_of_LT {Q : Exit → Act → World → Prop} {os : Oper} {tail : List Oper} {a : Act} {w : World} (h : LT P ops Q os tail a w) : wpList P ops Q (os :: tail) a w := by
  obtain ⟨w', hg, hd, hr, hk⟩ := h.out
  unfold wpList
  rw [if_pos (wanted_free hg)]
  left
  refine Oper.wp_of_does (Φ := fun u w1 => u = undef ∧ w1 = w') (by unfold Does; rw [hr]; exact ⟨rfl, rfl⟩) fun u w1 ⟨hu, hw⟩ => ?_
  subst hu; subst hw
  rw [hd]
  exact hk
end
/-- Is this an order of our own, with the pure operation p that may come behind the store s? -/
def lateB (md : Region.Mode) (ops : Array Oper) (hd : List Nat) (p s : Nat) (tl : List Nat) : Bool :=
  Region.noSelect ops && decide (hd.length + 2 + tl.length = ops.size) && headH md ops p s tl hd (Array.replicate ops.size false) && ((s :: tl).all fun t => hd.all fun i => ancB md ops ops.size t i) && (hd.all fun i => i != s) && (p != s)
theorem wp_region_late {P : Program} {id : Nat} {Q : Exit → Act → World → Prop} {a : Act} {w : World} {l : List Oper} (hd : List Nat) (p s : Nat) (tl : List Nat) (op os : Oper) (Sp : Nat → OpSpec) (hm : P.follows .mixedOrders = true) (hB : lateB .any l.toArray hd p s tl = true)
    (e1 : (opsAt l hd).map (·.1) = hd) (e2 : (opsAt l tl).map (·.1) = tl) (e3 : l[p]? = some op) (e4 : l[s]? = some os)
    (hst : ∀ i v w w', factOf (Sp i) v w → Below w.heap.size w w' → factOf (Sp i) v w')
    (h : wpGP P .any l.toArray (fun w' => Below w.heap.size w w') Sp (LateD P .any l.toArray Q (fun w' => Below w.heap.size w w') Sp p op os ((opsAt l tl).map (·.2))) (opsAt l hd) a (fun _ => none)) : (Code.region id l.toArray true).wp P Q a w := by
  simp only [lateB, Bool.and_eq_true, decide_eq_true_eq] at hB
  obtain ⟨⟨⟨⟨⟨hsel, hn⟩, hlex⟩, hanc⟩, hns⟩, hps⟩ := hB
  have hps : p ≠ s := by simpa using hps
  have hp : l.toArray[p]? = some op := by simpa using e3
  have hs : l.toArray[s]? = some os := by simpa using e4
  have inv0 : HeadInv .any l.toArray l.toArray.size (Array.replicate l.toArray.size false) :=
    ⟨by simp, fun j oj _ hl => (by rw [getD_replicate_false] at hl; cases hl), fun t h1 h2 => by omega⟩
  have mem : ∀ q ∈ opsAt l hd, q.1 ∈ hd := fun q hq => by rw [← e1]; exact List.mem_map.2 ⟨q, hq, rfl⟩
  have H := wpAnyH_list (md := .any) (T := tl) (Q := Q) ⟨w, Below.refl _ _⟩ hp hps hsel (opsAt l hd) _ a _ (fun p hp => opsAt_at hp) (fun t ht p hp => by
    have h1 := List.all_eq_true.1 hanc t ht
    exact List.all_eq_true.1 h1 p.1 (mem p hp)) (fun q hq => by have := List.all_eq_true.1 hns q.1 (mem q hq); simpa using this) inv0 (by rw [e1]; exact hlex) h
  refine wp_region_any hm ?_
  have hlh : (opsAt l hd).length = hd.length := by have := congrArg List.length e1; simpa using this
  have hlt : (opsAt l tl).length = tl.length := by have := congrArg List.length e2; simpa using this
  have := wpAny_of_H (Q' := Q) (g := (opsAt l tl).length + 1) hst (fun w1 w2 h1 h2 => h1.trans (h2.mono h1.size)) (fun listed a' Vs w' hC hF hL => by
      have := wpAny_of_seqL (md := .any) (Q' := Q) ((s, os) :: opsAt l tl) listed a' w' (fun p hp => by rcases List.mem_cons.1 hp with rfl | hp; exact hs; exact opsAt_at hp) (by rw [List.map_cons, e2]; exact hL.1) (wpList_of_LT (hL.2 w' hC hF))
      simpa using this) (fun listed a' Vs w' hC hF hsr hE => by
      obtain ⟨hB, hg, v, hsp, hpu, hn'⟩ := hE
      simp only [lateL, Bool.and_eq_true] at hB
      obtain ⟨⟨⟨⟨h1, h2⟩, h3⟩, h4⟩, h5⟩ := hB
      have hrp : p ∈ Region.ready .any l.toArray listed := by simpa using h2
      have hunp := (mem_ready.1 hrp).1
      obtain ⟨hsun, os', hos', hall⟩ := mem_ready.1 hsr
      have hoe : os' = os := Option.some.inj (hos'.symm.trans hs)
      subst hoe
      have hap := Region.free_spec hp h3 s os' hos' (Ne.symm hps) hsun (fun e he hb heq => by
        have h1 := hall e he hb
        rw [heq, getD_both hunp] at h1
        cases h1)
      obtain ⟨w1, q1, q2, q3, q4⟩ := (hn' w' hC hF).out
      rw [execOp_put os' (fun cs b => Region.noSelect_spec hsel s os' cs b hos') a' op.dst v (Oper.apart_spec hap).1] at q3
      unfold wpOp
      simp only [hos']
      rw [if_pos (wanted_free q1)]
      left
      refine Oper.wp_of_does (Φ := fun u w2 => u = undef ∧ w2 = w1) (by unfold Does; rw [q3]; exact ⟨rfl, rfl⟩) fun u w2 ⟨hu, hw⟩ => ?_
      subst hu; subst hw
      rw [q2]
      have h5' := h5
      simp only [seqL, Bool.and_eq_true, decide_eq_true_eq] at h5'
      refine ⟨fun e => (by rw [h5'.1] at e; cases e), fun i hi => ?_⟩
      rw [h5'.1] at hi
      have hip : i = p := by simpa using hi
      subst hip
      unfold wpOp
      simp only [hp]
      rw [if_pos (wanted_free hg)]
      left
      exact Oper.wp_of_pure (hpu w' hC (fun i' v' _ hv => hF i' v' hv) w2) (wpAny_of_seqL (md := .any) (Q' := Q) (opsAt l tl) _ _ _ (fun p hp => opsAt_at hp) (by rw [e2]; exact h5'.2) q4)) _ _ _ _ ({ w with drawn := w.drawn + 1 } : World) (Below.refl w.heap.size w).drew (fun i v h => by cases h) H
  rw [hlh, hlt, show hd.length + 1 + (tl.length + 1) = hd.length + 2 + tl.length by omega, hn] at this
  exact this
section
variable {P : Program} {ops : Array Oper} {md : Region.Mode} {C : World → Prop} {Sp : Nat → OpSpec}
/-- As LateD, of what is written 'WL'. -/
def LateW (P : Program) (md : Region.Mode) (ops : Array Oper) (Q : Exit → Act → World → Prop) (C : World → Prop) (Sp : Nat → OpSpec) (p : Nat) (op os : Oper) (tail : List Oper) (a : Act) (Vs : Vals) : Prop := LateD P md ops Q C Sp p op os tail a Vs
theorem late_ {p : Nat} {op os : Oper} {tail : List Oper} {Q : Exit → Act → World → Prop} {a : Act} {Vs : Vals} (hg : op.guard = none) {v : Value} (hs : Sp p = .const v) (h : ∀ w, C w → FactsAt md ops Sp p Vs w → ∀ w1, PureAt P op a w1 v)
    (hn : ∀ w, C w → Facts Sp Vs w → LT P ops Q os tail (a.put op.dst v) w) : LateW P md ops Q C Sp p op os tail a Vs := ⟨hg, v, hs, h, hn⟩
end
theorem region_late {P : Program} {id : Nat} {Q : Exit → Act → World → Prop} {a : Act} {W : World} {l : List Oper} (F : Fz) (hd : List Nat) (p s : Nat) (tl : List Nat) (L : List (Nat × Mark)) (hm : P.follows .mixedOrders = true) (hB : lateB .any l.toArray hd p s tl = true) (e1 : (opsAt l hd).map (·.1) = hd) (e2 : (opsAt l tl).map (·.1) = tl)
    {op os : Oper} (e3 : l[p]? = some op) (e4 : l[s]? = some os)
    (h : GP P .any l.toArray (fun w' => Below W.heap.size W w') (specOf W F L) (LateW P .any l.toArray Q (fun w' => Below W.heap.size W w') (specOf W F L) p op os ((opsAt l tl).map (·.2))) (opsAt l hd) a (fun _ => none)) : (Code.region id l.toArray true).wp P Q a W :=
  wp_region_late hd p s tl op os (specOf W F L) hm hB e1 e2 e3 e4 specOf_stable h.out
theorem stLate {P : Program} {w0 w : World} {F0 F : Fz} {L : List Blk} {M : List RowP} {ops : Array Oper} {Q : Exit → Act → World → Prop} {a : Act} {rest : List Oper} {t T T' : TypeId} {x y : Operand} {pos : String} {after : Array Edge} {i n j : Nat} {c : List Value} {v : Value} (S : St w0 F0 w F L M)
    (hx : a.eval x = .pointer (some ⟨n, j, none⟩)) (hy : a.eval y = v) (hL : L[i]? = some ⟨n, c, T'⟩)
    (hi : (P.info? T).map (·.size) = some v.cells.size) (h1 : v.cells.all (·.oneCell') = true) (hl : j + v.cells.size ≤ c.length)
    (h : ∀ w', St w0 F0 w' F (L.set i ⟨n, splice c j v.cells.toList, T'⟩) M → WL P ops Q rest a w') : LT P ops Q ⟨none, .store T x y, t, pos, after, none⟩ rest a w := by
  have hs := storeV (P := P) (T := T) (v := v) hi (S.there hL j v.cells.size hl) h1
  exact ⟨⟨_, rfl, rfl, ex_store hx (by rw [hy]; exact hs), (h _ (S.store hL j v.cells.toList (by simpa using hl))).out⟩⟩
theorem Sl.dropF {α : Type} {k : Nat} {R : Fz → List Value → α → Prop} {w : World} {F : Fz} {n : Nat} {cs : List Value} {T : TypeId} (hs : Sat w F) (hb : w.heap[n]? = some (.cells cs.toArray T (0, 0))) (hR : ∀ c p, R F c p → R (Proofs.YtikklmjengkliaaDoor.dropF F n) c p) (hx : ∀ (c : List Value) p, R F c p → ∃ (j : Nat) (u : Value), c[j]? = some u ∧ u ∉ cs) {v : Value} {l : List α} (h : Sl k R F v l) : Sl k R (Proofs.YtikklmjengkliaaDoor.dropF F n) v l := by
  obtain ⟨xs, ⟨a, c, h1, h2, h3, h4, h5⟩, hr, hk⟩ := h
  refine ⟨xs, ⟨a, c, h1, h2, h3, h4, ?_⟩, hr.imp hR, hk⟩
  rcases h5 with h5 | ⟨b, o, e, h6⟩
  · exact .inl h5
  · by_cases hbn : b = n
    · cases xs with
      | nil => exact .inl rfl
      | cons x xs =>
        exfalso
        cases l with
        | nil => exact hr
        | cons p l =>
          obtain ⟨j, u, hj, hu⟩ := hx _ _ hr.1
          have h0 := h6 j u (by
            rw [List.flatten_cons, List.getElem?_append_left (List.getElem?_eq_some_iff.1 hj).1]
            exact hj)
          subst hbn
          unfold cellF at h0
          split at h0
          · rename_i c0 t0 fr0 hF
            have := hs _ _ hF
            rw [hb] at this
            cases this
            have hm : u ∈ cs := by
              have : cs[o + j]? = some u := by simpa using h0
              exact List.mem_of_getElem? this
            exact hu hm
          · cases h0
    · refine .inr ⟨b, o, e, fun j u hu => ?_⟩
      have h0 := h6 j u hu
      unfold cellF Proofs.YtikklmjengkliaaDoor.dropF at *
      rw [if_neg hbn]
      exact h0
section
variable {w : World} {F : Fz} {n : Nat} {cs : List Value} {T : TypeId}
theorem Rds.dropF (hs : Sat w F) (hb : w.heap[n]? = some (.cells cs.toArray T (0, 0))) (hc : ∀ u ∈ cs, ∀ x, u ≠ bv x) (hc2 : ∀ b, Value.bool b ∉ cs) {v : Value} {l : List Rd} (h : Rds F v l) : Rds (Proofs.YtikklmjengkliaaDoor.dropF F n) v l :=
  Sl.dropF hs hb (RdC.dropF hs hb hc) (fun c p ⟨a0, a1, a2, a3, e, _, _, e2, _⟩ => ⟨2, a2, by rw [e]; rfl, by rw [e2]; exact hc2 _⟩) h
theorem Wrs.dropF (hs : Sat w F) (hb : w.heap[n]? = some (.cells cs.toArray T (0, 0))) (hc : ∀ u ∈ cs, ∀ x, u ≠ bv x) (hc2 : ∀ b, Value.bool b ∉ cs) {v : Value} {l : List Wr} (h : Wrs F v l) : Wrs (Proofs.YtikklmjengkliaaDoor.dropF F n) v l :=
  Sl.dropF hs hb (WrC.dropF hs hb hc) (fun c p ⟨a0, a1, a2, a3, e, _, _, e2, _⟩ => ⟨2, a2, by rw [e]; rfl, by rw [e2]; exact hc2 _⟩) h
end
end Go.Proofs.YtikklmjengkliaaDoor
namespace Go.Proofs.YtikklmjengkliaaDoor
open Go.RowKit
set_option linter.unusedVariables false
structure HL (P : Program) (ops : Array Oper) (Q : Exit → Act → World → Prop) (F : Fz) (fuel : Nat) (listed : Array Bool) (a : Act) (w : World) : Prop where
  out : Go.wpAnyH P .any ops Q (fun w => Sat w F) fuel listed a w
section
variable {P : Program} {ops : Array Oper} {Q : Exit → Act → World → Prop} {F : Fz} {fuel : Nat} {listed : Array Bool} {a : Act} {w : World} {o : Oper}
theorem region_hl {id : Nat} {l : List Oper} {w0 : World} {F0 : Fz} {L : List Blk} {M : List RowP} (S : St w0 F0 w F L M) (hm : P.follows .mixedOrders = true) (h : ∀ w', St w0 F0 w' F L M → HL P l.toArray Q F l.length (Array.replicate l.length false) a w') : (Code.region id l.toArray true).wp P Q a w := by
  have := (h { w with drawn := w.drawn + 1 } (S.tells (Below.refl w.heap.size w).drew)).out
  refine wp_region_held (S := fun w => Sat w F) hm ?_
  simpa using this
def canTake (ops : Array Oper) (listed : Array Bool) (i : Nat) : Bool := Region.noSelect ops && Region.free .any ops listed i && (Region.ready .any ops listed).contains i
theorem hl_take {l : List Oper} (i : Nat) (hi : l[i]? = some o) (hc : canTake l.toArray listed i = true) {v : Value} (hQ : ∀ c a w, Q (.panic c) (a.put o.dst v) w → Q (.panic c) a w) (hS : Sat w F) (hw : Region.wanted o (yielded l.toArray a.tmps) = true)
    (hr : ∀ w1, Sat w1 F → (execOp a.eval o).run P w1 = .ok (.value v) w1) (h : HL P l.toArray Q F fuel (listed.setIfInBounds i true) (a.put o.dst v) w) : HL P l.toArray Q F (fuel + 1) listed a w := by
  simp only [canTake, Bool.and_eq_true] at hc
  exact ⟨Go.wpAnyH_take (by simpa using hi) hc.1.1 hc.1.2 hc.2 hQ (.inl ⟨hw, hr⟩) hS h.out⟩
theorem Oper.wp_exit {K K' : Act → World → Prop} (hh : o.wp P a w K (Exit.then K' Q)) : o.wp P a w K Q := by
  unfold Oper.wp at *
  generalize (execOp a.eval o).run P w = r at *
  cases r with
  | ok n w' =>
    cases n <;> simp only [Oper.upon] at hh ⊢ <;> try exact hh
  | halt x w' => cases x <;> exact hh
/-- The only one that may come up. -/
theorem hl_next {l : List Oper} (i : Nat) (hr : Region.ready .any l.toArray listed = [i]) (hi : l[i]? = some o) (h : WL P l.toArray (Exit.then (fun a' w' => Sat w' F ∧ Go.wpAnyH P .any l.toArray Q (fun w => Sat w F) fuel (listed.setIfInBounds i true) a' w') Q) [o] a w) : HL P l.toArray Q F (fuel + 1) listed a w := by
  refine ⟨Go.wpAnyH_all hr (by simp) fun j hj => ?_⟩
  have hji : j = i := by simpa using hj
  subst hji
  have h1 := h.out
  unfold wpList at h1
  unfold wpOp
  have hi' : l.toArray[j]? = some o := by simpa using hi
  simp only [hi']
  split
  · rename_i hw
    rw [if_pos hw] at h1
    rcases h1 with h1 | h1
    · left
      refine Oper.wp_mono (fun a' w' hk => ?_) (Oper.wp_exit h1)
      exact hk
    · exact .inr h1
  · rename_i hw
    rw [if_neg hw] at h1
    exact h1
theorem hl_back (hS : Sat w F) (h : HL P ops Q F fuel listed a w) : Exit.then (fun a' w' => Sat w' F ∧ Go.wpAnyH P .any ops Q (fun w => Sat w F) fuel listed a' w') Q .normal a w := ⟨hS, h.out⟩
theorem hl_done (hr : Region.ready .any ops listed = []) (h : Q .normal a w) : HL P ops Q F fuel listed a w := ⟨Go.wpAnyH_done hr h _⟩
end
end Go.Proofs.YtikklmjengkliaaDoor
namespace Go.Proofs.YtikklmjengkliaaDoor
open Go.ChangeShapes Go.WideShapes Go.ChangeAt Go.RowKit Go.Deep
set_option maxRecDepth 100000
theorem laidVars_at {P : Program} {W : World} : ∀ {l : List (String × DataW Unit)} {ps : List MemPlace}, DataW.LaidVars P W l ps → ∀ (i : Nat) (n : String) (d : DataW Unit), l[i]? = some (n, d) →
    ∃ g t cs fuel p, P.globalNamed n = some g ∧ (P.globals[g]?).map (·.type) = some t ∧ W.var? P n = some cs ∧ DataW.trod (fun _ => ()) P W 0 (fun _ => true) false fuel t cs.toList = some (d, p)
  | [], _, _, i, n, d, hi => by simp at hi
  | (n', d') :: r, ps, h, i, n, d, hi => by
    obtain ⟨g, t, cs, fuel, p, q, h1, h2, h3, h4, h5, h6⟩ := h
    cases i with
    | zero =>
      simp only [List.getElem?_cons_zero, Option.some.injEq, Prod.mk.injEq] at hi
      obtain ⟨rfl, rfl⟩ := hi
      exact ⟨g, t, cs, fuel, p, h1, h2, h3, h4⟩
    | succ i => exact laidVars_at h5 i n d (by simpa using hi)
theorem tabIs_at {P : Program} {W : World} {l : List (String × DataW Unit)} (h : laidMet P l W) (i : Nat) (name : String) (k : IntKind) (zs : List Int) {g : Nat} {t e : TypeId} {n : Nat}
    (hi : l[i]? = some (name, Lib.tabData k zs))
    (hg : P.globalNamed name = some g) (hty : (P.globals[g]?).map (·.type) = some t) (ht : P.underlying t = some (.array n e)) (he : P.underlying e = some (.int k)) (hce : P.cellsOf e = 1) (hct : P.cellsOf t = n) : Lib.TabIs P W name k zs := by
  obtain ⟨ps, hv, _, _⟩ := h
  obtain ⟨g', t', cs, fuel, p, hg', ht', hvar, hd⟩ := laidVars_at hv i name _ hi
  obtain rfl := Option.some.inj (hg.symm.trans hg')
  obtain rfl := Option.some.inj (hty.symm.trans ht')
  unfold Lib.TabIs
  rw [hvar, ← Lib.cells_of_tab ht he hce hct hd]
end Go.Proofs.YtikklmjengkliaaDoor
namespace Go.Proofs.YtikklmjengkliaaDoor
open Go.RowKit
set_option maxRecDepth 100000
set_option linter.unusedVariables false
set_option linter.unusedSimpArgs false
def ByC (F : Fz) (cs : List Value) (b : UInt8) : Prop := cs = [bv b]
theorem ByC.mono (F F' : Fz) (x : List Value) (p : UInt8) (hl : Le F F') (h : ByC F x p) : ByC F' x p := h
theorem bv_one (b : UInt8) : ∀ u ∈ [bv b], u.oneCell' = true := by intro u hu; rw [List.mem_singleton.1 hu]; rfl
theorem ByC.one (F : Fz) (cs : List Value) (p : UInt8) (h : ByC F cs p) : ∀ u ∈ cs, u.oneCell' = true := by rw [h]; exact bv_one p
theorem bytes_flat : ∀ l : By, ((l.map fun b => [bv b]).flatten) = l.map bv
  | [] => rfl
  | b :: l => by simp [bytes_flat l]
theorem allR_bytes (F : Fz) : ∀ l : By, AllR (ByC F) (l.map fun b => [bv b]) l
  | [] => trivial
  | _ :: l => ⟨rfl, allR_bytes F l⟩
theorem bytes_of : ∀ {xs : List (List Value)} {l : By} {F : Fz}, AllR (ByC F) xs l → xs.flatten = l.map bv
  | [], [], _, _ => rfl
  | x :: xs, b :: l, F, h => by rw [List.flatten_cons, h.1, bytes_of h.2]; rfl
theorem Bs.sl {F : Fz} {v : Value} {l : By} (h : Bs F v l) : Sl 1 ByC F v l := ⟨l.map fun b => [bv b], by rw [bytes_flat]; exact h, allR_bytes F l, by simp⟩
theorem bs_of_sl {F : Fz} {v : Value} {l : By} (h : Sl 1 ByC F v l) : Bs F v l := by
  obtain ⟨xs, h1, h2, _⟩ := h
  rw [bytes_of h2] at h1
  exact h1
theorem conv_b8 (z : Nat) (w : World) : (convert 3 5 (.int .i64 (z : Nat))).run Tryd.prog w = .ok (bv (b8 z)) w := by
  have : (convert 3 5 (.int .i64 (z : Nat))).run Tryd.prog w = .ok (.int .u8 (IntKind.u8.wrap (z : Int))) w := by kernel_rfl
  rw [this]
  have e : IntKind.u8.wrap (z : Int) = ((b8 z).toNat : Int) := by
    rw [show IntKind.u8.wrap (z : Int) = (z : Int) % 256 from rfl]
    simp [b8]
  rw [e]; rfl
theorem ex_shrN {P : Program} {ρ : Operand → Value} {w : World} {d : Option Tmp} {t X Y : TypeId} {x y : Operand} {pos : String} {after : Array Edge} {guard : Option (Nat × Bool)} {m n : Nat} (hx : ρ x = .int .i64 (m : Int)) (hy : ρ y = .int .u64 (n : Int)) (hn : n ≤ 64) : (execOp ρ ⟨d, .binOp .shr X x y Y, t, pos, after, guard⟩).run P w = .ok (.value (.int .i64 ((m / 2 ^ n : Nat) : Int))) w := by
  have e : (eqGuard .shr X x y (.int .i64 (m : Int)) (.int .u64 (n : Int))).run P w = .ok () w := rfl
  have h : (binOp .shr X (.int .i64 (m : Int)) (.int .u64 (n : Int))).run P w = .ok (.int .i64 ((m / 2 ^ n : Nat) : Int)) w := by
    show (Op.shift .shr .i64 (m : Int) .u64 (n : Int)).run P w = _
    unfold Op.shift
    rw [if_neg (by omega)]
    show Result.ok (Value.int .i64 (Int.fdiv (m : Int) (2 ^ (min (n : Int).toNat 64)))) w = _
    rw [Int.toNat_natCast, Nat.min_eq_left hn, Int.fdiv_eq_ediv_of_nonneg _ (show (0 : Int) ≤ 2 ^ n from Int.le_of_lt (Int.pow_pos (by decide)))]
    simp
  simp only [execOp, hx, hy, Sem.run_bind, e, Result.andThen_ok, h, Sem.run_pure]
theorem Bs.get {F : Fz} {a : Option Addr} {n c : Nat} {l : By} (h : Bs F (.slice a n c) l) {i : Nat} {b : UInt8} (hb : l[i]? = some b) : ∃ g o, a = some ⟨g, o, none⟩ ∧ cellF F g (o + i * 1) = some (bv b) := by
  obtain ⟨a', c', e, _, _, _, h5⟩ := h
  injection e with e1 _ _
  subst e1
  rcases h5 with h5 | ⟨g, o, e, h6⟩
  · rw [List.map_eq_nil_iff] at h5
    subst h5; cases hb
  · exact ⟨g, o, e, by rw [Nat.mul_one]; exact h6 i (bv b) (by rw [List.getElem?_map, hb]; rfl)⟩
abbrev Bys (F : Fz) (v : Value) (l : By) : Prop := Sl 1 ByC F v l
end Go.Proofs.YtikklmjengkliaaDoor
namespace Go.Proofs.YtikklmjengkliaaDoor
open Go.RowKit
set_option maxRecDepth 100000
set_option linter.unusedVariables false
/-- A lane as the number that a cell holds. -/
def lane (a : BitVec 64) : Int := (a.toNat : Int)
theorem lane_ofInt (a : BitVec 64) : BitVec.ofInt IntKind.u64.bits (lane a) = a := by
  show BitVec.ofInt 64 (a.toNat : Int) = a
  simp
theorem lane_wrap (a : BitVec 64) : IntKind.u64.wrap ((BitVec.toNat a : Nat) : Int) = lane a := by
  have := a.isLt
  unfold lane IntKind.wrap
  simp only [IntKind.signed, Bool.false_and, Bool.false_eq_true, if_false, IntKind.bits]
  omega
theorem lane_xor (a b : BitVec 64) : bits .xor .u64 (lane a) (lane b) = lane (a ^^^ b) := by
  unfold bits
  simp only [lane_ofInt]
  exact lane_wrap (a ^^^ b)
theorem lane_or (a b : BitVec 64) : bits .or .u64 (lane a) (lane b) = lane (a ||| b) := by
  unfold bits
  simp only [lane_ofInt]
  exact lane_wrap (a ||| b)
theorem lane_and (a b : BitVec 64) : bits .and .u64 (lane a) (lane b) = lane (a &&& b) := by
  unfold bits
  simp only [lane_ofInt]
  exact lane_wrap (a &&& b)
theorem wrap_u64 (z : Int) : IntKind.u64.wrap z = z % 18446744073709551616 := by
  unfold IntKind.wrap
  simp only [IntKind.signed, Bool.false_and, Bool.false_eq_true, if_false]
  rfl
theorem lane_shl (a : BitVec 64) (n : Nat) : IntKind.u64.wrap (lane a * 2 ^ n) = lane (a <<< n) := by
  rw [wrap_u64]
  unfold lane
  rw [BitVec.toNat_shiftLeft, Nat.shiftLeft_eq, Int.natCast_emod, Int.natCast_mul, Int.natCast_pow]
  rfl
theorem lane_shr (a : BitVec 64) (n : Nat) : lane a / 2 ^ n = lane (a >>> n) := by
  unfold lane
  simp only [BitVec.toNat_ushiftRight, Nat.shiftRight_eq_div_pow]
  push_cast
  rfl
set_option maxHeartbeats 1000000 in
theorem turn_spec (w : World) (x : BitVec 64) (n : Nat) (h1 : 1 ≤ n) (h2 : n ≤ 63) :
    Calls Tryd.prog 106 #[.int .u64 (lane x), .int .i64 n] w (Tells w (.int .u64 (lane (turnL x n)))) := by
  go_enter Tryd.func106, Tryd.ntmps106
  go_wp2_with fail
  go_quiet (fail)
  go_wp2_with fail
  go_ret
  rw [lane_shl, lane_shr, lane_or]
  exact ⟨rfl, ⟨rfl, rfl, rfl, Nat.le_refl _, fun _ _ => rfl⟩⟩
end Go.Proofs.YtikklmjengkliaaDoor
namespace Go.Proofs.YtikklmjengkliaaDoor
open Go.RowKit
set_option maxRecDepth 100000
set_option linter.unusedVariables false
set_option linter.unusedSimpArgs false
theorem nagg_145 (w : World) : (isAgg 145).run Tryd.prog w = .ok false w := by kernel_rfl
theorem size_145 : (Tryd.prog.info? 145).map (·.size) = some 1 := by kernel_rfl
theorem sizeof_145 (w : World) : (sizeOf 145).run Tryd.prog w = .ok 1 w := by kernel_rfl
theorem size_162 : (Tryd.prog.info? 162).map (·.size) = some 5 := by kernel_rfl
theorem zero_162 (w : World) : (zeroValue 162).run Tryd.prog w = .ok (.agg #[.int .u64 0, .int .u64 0, .int .u64 0, .int .u64 0, .int .u64 0]) w := by kernel_rfl
abbrev laneV (a : BitVec 64) : Value := .int .u64 (lane a)
theorem at0_mapL (n : Nat) (f : Nat → BitVec 64) (i : Nat) (h : i < n) : at0 (mapL n f) i = f i := by simp [at0, mapL, List.getD, h]
theorem mapL_ext {n : Nat} {f g : Nat → BitVec 64} (h : ∀ i, i < n → f i = g i) : mapL n f = mapL n g := List.map_congr_left (fun i hi => h i (List.mem_range.1 hi))
theorem mapL_at0 (S : List (BitVec 64)) : mapL S.length (at0 S) = S := by
  apply List.ext_getElem (by simp [mapL])
  intro i h1 h2
  simp [mapL, at0, List.getD, h2]
theorem mapL_set (n : Nat) (f : Nat → BitVec 64) (k : Nat) (v : BitVec 64) : (mapL n f).set k v = mapL n fun i => if i = k then v else f i := by
  apply List.ext_getElem (by simp [mapL])
  intro i h1 h2
  simp only [mapL, List.getElem_set, List.getElem_map, List.getElem_range]
  by_cases h : k = i
  · subst h; simp
  · rw [if_neg h, if_neg (fun e => h e.symm)]
theorem goesN_bd : ∀ i, i < 24 → goesN i < 25 := by decide
theorem turnsN_bd : ∀ i, i < 24 → 1 ≤ turnsN i ∧ turnsN i ≤ 63 := by decide
def Tabs (w : World) : Prop := (∀ i, i < 24 → w.cell? ⟨1, i, none⟩ = some (.int .i64 (goesN i))) ∧ (∀ i, i < 24 → w.cell? ⟨2, i, none⟩ = some (.int .i64 (turnsN i))) ∧ ∀ i, i < 24 → w.cell? ⟨3, i, none⟩ = some (.int .u64 (lane (roundB i)))
theorem Tabs.lt {w : World} (h : Tabs w) : 1 < w.heap.size ∧ 2 < w.heap.size ∧ 3 < w.heap.size :=
  ⟨World.block_lt_of_cell? w ⟨1, 0, none⟩ (h.1 0 (by decide)), World.block_lt_of_cell? w ⟨2, 0, none⟩ (h.2.1 0 (by decide)), World.block_lt_of_cell? w ⟨3, 0, none⟩ (h.2.2 0 (by decide))⟩
theorem Tabs.below {w w' : World} {N : Nat} (h : Tabs w) (hb : Below N w w') (h1 : 1 < N) (h2 : 2 < N) (h3 : 3 < N) : Tabs w' :=
  ⟨fun i hi => by rw [hb.cell (p := ⟨1, i, none⟩) h1]; exact h.1 i hi, fun i hi => by rw [hb.cell (p := ⟨2, i, none⟩) h2]; exact h.2.1 i hi, fun i hi => by rw [hb.cell (p := ⟨3, i, none⟩) h3]; exact h.2.2 i hi⟩
def goesV : Array Value := (goesT.map fun i : Nat => Value.int .i64 (i : Int)).toArray
theorem goes_load {w : World} (h : Tabs w) : (Instr.loadAt 164 (.pointer (some ⟨1, 0, none⟩))).run Tryd.prog w = .ok (.agg goesV) w := by
  unfold goesV
  refine run_loadAt_mid (P := Tryd.prog) w 1 0 164 (goesT.map fun i : Nat => Value.int .i64 (i : Int)) (.array 24 3) (fun j v hj => ?_) (by kernel_rfl) rfl (by kernel_rfl)
  have hj' : j < 24 := by
    have := (List.getElem?_eq_some_iff.1 hj).1
    simpa [goesT] using this
  rw [Nat.zero_add, h.1 j hj', ← hj]
  unfold goesN
  rw [List.getElem?_map, List.getD_eq_getElem?_getD]
  have : goesT[j]? = some (goesT[j]'(by simpa [goesT] using hj')) := List.getElem?_eq_getElem _
  rw [this]
  rfl
theorem Tabs.at {w w' : World} (h : Tabs w) (hb : Below w.heap.size w w') : Tabs w' := h.below hb h.lt.1 h.lt.2.1 h.lt.2.2
theorem goes_at {k : Nat} (h : k < 24) : goesV[k]? = some (.int .i64 ((goesN k : Nat) : Int)) := by
  unfold goesV goesN
  have hk : k < goesT.length := by simpa [goesT] using h
  simp [List.getElem?_map, List.getElem?_eq_getElem hk, List.getD_eq_getElem?_getD]
theorem lanes_at {X : List (BitVec 64)} {i : Nat} (h : i < X.length) : (X.map laneV)[i]? = some (laneV (at0 X i)) := by
  simp [at0, List.getElem?_map, List.getElem?_eq_getElem h, List.getD_eq_getElem?_getD]
theorem lanes_set {X : List (BitVec 64)} {j : Nat} {x : BitVec 64} (h : j < X.length) : splice (X.map laneV) j [laneV x] = (X.set j x).map laneV := by
  unfold splice
  rw [List.map_set, List.set_eq_take_append_cons_drop, if_pos (by simpa using h)]
  simp
def cL (S : List (BitVec 64)) (k : Nat) : List (BitVec 64) := mapL 5 fun x => if x < k then colL S x else 0
theorem cL_len (S : List (BitVec 64)) (k : Nat) : (cL S k).length = 5 := mapL_len _ _
theorem cL_step (S : List (BitVec 64)) {k : Nat} (h : k < 5) : (cL S k).set k (colL S k) = cL S (k + 1) := by
  unfold cL
  rw [mapL_set]
  refine mapL_ext fun i hi => ?_
  by_cases e : i = k
  · subst e; rw [if_pos rfl, if_pos (by omega)]
  · rw [if_neg e]
    by_cases e2 : i < k
    · rw [if_pos e2, if_pos (by omega)]
    · rw [if_neg e2, if_neg (by omega)]
theorem cL_zero (S : List (BitVec 64)) : cL S 0 = List.replicate 5 0 := by
  unfold cL mapL; rfl
theorem cL_all (S : List (BitVec 64)) : cL S 5 = (List.range 5).map (colL S) := by
  unfold cL
  exact mapL_ext fun i hi => if_pos hi
theorem thL_len (S C : List (BitVec 64)) (k : Nat) : (thL S C k).length = 25 := mapL_len _ _
theorem thL_zero {S C : List (BitVec 64)} (h : S.length = 25) : thL S C 0 = S := by
  unfold thL
  rw [mapL_ext (g := at0 S) (fun i hi => if_neg (by omega))]
  have := mapL_at0 S
  rwa [h] at this
theorem thL_at {S C : List (BitVec 64)} {i : Nat} (h : i < 25) : at0 (thL S C i) i = at0 S i := by
  unfold thL
  rw [at0_mapL _ _ _ h, if_neg (by omega)]
theorem thL_step (S C : List (BitVec 64)) {i : Nat} (h : i < 25) : (thL S C i).set i (thAt S C i) = thL S C (i + 1) := by
  unfold thL
  rw [mapL_set]
  refine mapL_ext fun j hj => ?_
  by_cases e : j = i
  · subst e; rw [if_pos rfl, if_pos (by omega)]
  · rw [if_neg e]
    by_cases e2 : j < i
    · rw [if_pos e2, if_pos (by omega)]
    · rw [if_neg e2, if_neg (by omega)]
theorem rhoL_len {A : List (BitVec 64)} (h : A.length = 25) : ∀ k, (rhoL A k).1.length = 25
  | 0 => h
  | k + 1 => by simp [rhoL, rhoL_len h k]
def chiK (B : List (BitVec 64)) (k : Nat) : List (BitVec 64) := mapL 25 fun i => if i < k then chiAt B i else at0 B i
theorem chiK_len (B : List (BitVec 64)) (k : Nat) : (chiK B k).length = 25 := mapL_len _ _
theorem chiK_zero {B : List (BitVec 64)} (h : B.length = 25) : chiK B 0 = B := by
  unfold chiK
  rw [mapL_ext (g := at0 B) (fun i hi => if_neg (by omega))]
  have := mapL_at0 B
  rwa [h] at this
theorem chiK_at {B : List (BitVec 64)} {k i : Nat} (h : k ≤ i) (hi : i < 25) : at0 (chiK B k) i = at0 B i := by
  unfold chiK
  rw [at0_mapL _ _ _ hi, if_neg (by omega)]
theorem chiK_step (B : List (BitVec 64)) {i : Nat} (h : i < 25) : (chiK B i).set i (chiAt B i) = chiK B (i + 1) := by
  unfold chiK
  rw [mapL_set]
  refine mapL_ext fun j hj => ?_
  by_cases e : j = i
  · subst e; rw [if_pos rfl, if_pos (by omega)]
  · rw [if_neg e]
    by_cases e2 : j < i
    · rw [if_pos e2, if_pos (by omega)]
    · rw [if_neg e2, if_neg (by omega)]
theorem chiK_all (B : List (BitVec 64)) : chiK B 25 = chiL B := by
  unfold chiK chiL
  exact mapL_ext fun i hi => if_pos hi
section
variable {P : Program} {ρ : Operand → Value} {w : World} {d : Option Tmp} {t X Y E : TypeId} {n : Nat} {pos : String} {after : Array Edge} {guard : Option (Nat × Bool)} {x y : Operand}
theorem ex_ixA {cs : Array Value} {i : Nat} {v : Value} (hX : P.underlying X = some (.array n E)) (hs : (sizeOf E).run P w = .ok 1 w) (hx : ρ x = .agg cs) (hy : ρ y = .int .i64 i) (hi : i < n) (hb : (isAgg E).run P w = .ok false w) (hv : cs[i]? = some v) :
    (execOp ρ ⟨d, .index X x y, t, pos, after, guard⟩).run P w = .ok (.value v) w := by
  have h1 : (0 : Int) ≤ (i : Int) ∧ (i : Int) < (n : Int) := by omega
  simp [execOp, hx, hy, Instr.index, part, Sem.run_bind, run_underlying hX w, asIntOf, hs, h1, hb, hv, hi]
theorem ex_atA {b i : Nat} (hX : P.underlying X = some (.array n E)) (hs : (sizeOf E).run P w = .ok 1 w) (hx : ρ x = .pointer (some ⟨b, 0, none⟩)) (hy : ρ y = .int .i64 i) (hi : i < n) :
    (execOp ρ ⟨d, .indexAddr X x y, t, pos, after, guard⟩).run P w = .ok (.value (.pointer (some ⟨b, i, none⟩))) w := by
  have hadd : (⟨b, 0, none⟩ : Addr).add (i * 1) = ⟨b, i, none⟩ := by rw [Addr.add_mid]; simp
  have hlt : (0 : Int) ≤ (i : Int) ∧ (i : Int) < (n : Int) := by omega
  simp only [Nat.mul_one] at hadd
  simp [execOp, hx, hy, Instr.indexAt, Instr.sureAddr, asIntOf, Sem.run_bind, Sem.run_pure, Result.andThen_ok, run_underlying hX w, hs, hadd, hlt, hi]
theorem ex_xorL {a b : BitVec 64} (hx : ρ x = laneV a) (hy : ρ y = laneV b) : (execOp ρ ⟨d, .binOp .xor X x y Y, t, pos, after, guard⟩).run P w = .ok (.value (laneV (a ^^^ b))) w := by
  refine ex_bin hx hy ?_
  rw [run_binInt _ (by simp)]
  show Result.ok (Value.int .u64 (bits .xor .u64 (lane a) (lane b))) w = _
  rw [lane_xor]
theorem ex_andL {a b : BitVec 64} (hx : ρ x = laneV a) (hy : ρ y = laneV b) : (execOp ρ ⟨d, .binOp .and X x y Y, t, pos, after, guard⟩).run P w = .ok (.value (laneV (a &&& b))) w := by
  refine ex_bin hx hy ?_
  rw [run_binInt _ (by simp)]
  show Result.ok (Value.int .u64 (bits .and .u64 (lane a) (lane b))) w = _
  rw [lane_and]
theorem ex_notL {a : BitVec 64} (hx : ρ x = laneV a) : (execOp ρ ⟨d, .unOp .xor X x, t, pos, after, guard⟩).run P w = .ok (.value (laneV (~~~ a))) w := by
  have e : (18446744073709551615 : Int) = lane (BitVec.allOnes 64) := by decide
  have h : bits .xor .u64 (18446744073709551615 : Int) (lane a) = lane (~~~ a) := by rw [e, lane_xor, BitVec.allOnes_xor]
  simp only [execOp, hx]
  show Result.ok (Next.value (.int .u64 (bits .xor .u64 (18446744073709551615 : Int) (lane a)))) w = _
  rw [h]
theorem ex_remA {m n : Nat} (hx : ρ x = .int .i64 (m : Int)) (hy : ρ y = .int .i64 (n : Int)) (hn : 0 < n) (hm : m ≤ 9223372036854775807) : (execOp ρ ⟨d, .binOp .rem X x y Y, t, pos, after, guard⟩).run P w = .ok (.value (.int .i64 ((m % n : Nat) : Int))) w := by
  refine ex_bin hx hy ?_
  rw [run_binInt _ (by simp)]
  show (Op.intDiv .rem .i64 m n).run P w = _
  unfold Op.intDiv
  rw [if_neg (by omega)]
  show Result.ok (Value.int .i64 (Int.tmod (m : Int) (n : Int))) w = _
  rw [Int.tmod_eq_emod_of_nonneg (by omega)]
  rfl
end
end Go.Proofs.YtikklmjengkliaaDoor
