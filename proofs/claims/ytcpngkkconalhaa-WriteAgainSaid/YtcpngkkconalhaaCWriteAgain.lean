/- The walk of WriteAgain -/
import Derived.Test.YtcpngkkconalhaaZ12
import Derived.Test.YtcpngkkconalhaaZ8
namespace Go.Proofs.Ytcpngkkconalhaa
open Go.RowKit
set_option maxRecDepth 100000
set_option linter.unusedVariables false
set_option linter.unusedSimpArgs false
/-- What was written lies somewhere, the first one of its place. -/
theorem write_at {t u : Tx} {r : Wr} (e : writeX t r = some u) : ∃ i, ∃ hi : i < u.writes.length, u.writes[i] = r ∧ ∀ j (hj : j < i), samePl (u.writes[j]'(by omega)) r = false := by
  have hs : samePl r r = true := by simp [samePl]
  unfold writeX at e
  cases hf : idxW t.writes r with
  | some i =>
    rw [hf] at e
    cases e
    unfold idxW at hf
    obtain ⟨h1, h2, h3⟩ := List.findIdx?_eq_some_iff_getElem.1 hf
    refine ⟨i, by simpa using h1, by simp, fun j hj => ?_⟩
    rw [List.getElem_set_ne (by omega)]
    simpa using h3 j hj
  | none =>
    rw [hf] at e
    simp only at e
    split at e
    · cases e
    · cases e
      have h := idxW_none hf
      refine ⟨t.writes.length, by simp, by simp, fun j hj => ?_⟩
      rw [List.getElem_append_left hj]
      exact h _ (List.getElem_mem _)
theorem idxW_at {ws : List Wr} {r : Wr} {i : Nat} (hi : i < ws.length) (h1 : samePl ws[i] r = true) (h2 : ∀ j (hj : j < i), samePl (ws[j]'(by omega)) r = false) : idxW ws r = some i := by
  unfold idxW
  exact List.findIdx?_eq_some_iff_getElem.2 ⟨hi, h1, fun j hj => by rw [h2 j hj]; simp⟩
theorem write_again {t a : Tx} {r u : Wr} (e : writeX t r = some a) (hn : u.name = r.name) (hk : u.key = r.key) : ∃ b, writeX a u = some b ∧ writeX b r = some a ∧ b.writes.length = a.writes.length ∧ 0 < a.writes.length := by
  obtain ⟨i, hi, hr, hb⟩ := write_at e
  have hs : ∀ x, samePl x u = samePl x r := fun x => by unfold samePl; rw [hn, hk]
  have hrr : samePl r r = true := by simp [samePl]
  have hur : samePl u r = true := by simp [samePl, hn, hk]
  refine ⟨{ a with writes := a.writes.set i u }, ?_, ?_, by simp, by omega⟩
  · unfold writeX
    rw [idxW_at hi (by rw [hs, hr]; exact hrr) (fun j hj => by rw [hs]; exact hb j hj)]
  · unfold writeX
    simp only
    rw [idxW_at (i := i) (by simpa using hi) (by rw [List.getElem_set_self]; exact hur) (fun j hj => by rw [List.getElem_set_ne (by omega)]; exact hb j hj)]
    simp only [List.set_set]
    rw [← hr, List.set_getElem_self]
set_option maxHeartbeats 8000000 in
theorem sameWrite_is (F : Fz) (w : World) (v u : Value) (p : Wr) (hs : Sat w F) (hv : WrV F v p) (hu : WrV F u p) :
    Calls Try.prog 44 #[v, u] w (Tells w (.bool true)) := by
 obtain ⟨x0, x1, x2, x3, x4, x5, rfl, h0, h1, h3⟩ := hv
 obtain ⟨y0, y1, y2, y3, y4, y5, rfl, k0, k1, k3⟩ := hu
 have S := St.start hs
 go_enter Try.func44, Try.ntmps44
 refine wp_seq_k (fun K1 hK1 => region_wl ?_)
 refine stNew S (v := fun n => .pointer (some ⟨n, 0, none⟩)) rfl (ex_box (v := (.agg #[(.slice x0 p.name.length x1), (.slice x2 p.key.length x3), (.bool p.gone), (.slice x4 p.value.length x5)])) rfl) (fun n2 w3 S4 => ?_)
 simp only [pS, pN, pA, pC, pZ]
 have S4 : St w F w3 F [⟨n2, [(.slice x0 p.name.length x1), (.slice x2 p.key.length x3), (.bool p.gone), (.slice x4 p.value.length x5)], 27⟩] [] := S4
 refine stNew S4 (v := fun n => .pointer (some ⟨n, 0, none⟩)) rfl (ex_box (v := (.agg #[(.slice y0 p.name.length y1), (.slice y2 p.key.length y3), (.bool p.gone), (.slice y4 p.value.length y5)])) rfl) (fun n5 w6 S7 => ?_)
 simp only [pS, pN, pA, pC, pZ]
 have S7 : St w F w6 F [⟨n5, [(.slice y0 p.name.length y1), (.slice y2 p.key.length y3), (.bool p.gone), (.slice y4 p.value.length y5)], 27⟩, ⟨n2, [(.slice x0 p.name.length x1), (.slice x2 p.key.length x3), (.bool p.gone), (.slice x4 p.value.length x5)], 27⟩] [] := S7
 refine do_ rfl (.bool false) (ex_assign _) ?_
 simp only [pS, pN, pA, pC, pZ]
 refine wl_nil (hK1 _ _ ?_)
 refine wp_seq_k (fun K8 hK8 => region_wl ?_)
 refine do_ rfl (.pointer (some ⟨n2, 2, none⟩)) (ex_field (q := ⟨n2, 2, none⟩) rfl (fa_27_2 _ _)) ?_
 simp only [pS, pN, pA, pC, pZ]
 refine do_ rfl (.bool p.gone) (ex_load rfl (load1 (nagg_4 _) (St.cell S7 (i := 1) rfl rfl))) ?_
 simp only [pS, pN, pA, pC, pZ]
 refine do_ rfl (.pointer (some ⟨n5, 2, none⟩)) (ex_field (q := ⟨n5, 2, none⟩) rfl (fa_27_2 _ _)) ?_
 simp only [pS, pN, pA, pC, pZ]
 refine do_ rfl (.bool p.gone) (ex_load rfl (load1 (nagg_4 _) (St.cell S7 (i := 0) rfl rfl))) ?_
 simp only [pS, pN, pA, pC, pZ]
 refine do_ rfl (.bool true) (ex_eqlB Try.underlying4 rfl rfl (beq_iff_eq.2 rfl)) ?_
 simp only [pS, pN, pA, pC, pZ]
 refine do_ rfl (.bool true) (ex_move _) ?_
 simp only [pS, pN, pA, pC, pZ]
 refine do_ rfl (.pointer (some ⟨n2, 0, none⟩)) (ex_field (q := ⟨n2, 0, none⟩) rfl (fa_27_0 _ _)) ?_
 simp only [pS, pN, pA, pC, pZ]
 refine do_ rfl (.slice x0 p.name.length x1) (ex_load rfl (load1 (nagg_25 _) (St.cell S7 (i := 1) rfl rfl))) ?_
 simp only [pS, pN, pA, pC, pZ]
 refine do_ rfl (.pointer (some ⟨n5, 0, none⟩)) (ex_field (q := ⟨n5, 0, none⟩) rfl (fa_27_0 _ _)) ?_
 simp only [pS, pN, pA, pC, pZ]
 refine do_ rfl (.slice y0 p.name.length y1) (ex_load rfl (load1 (nagg_25 _) (St.cell S7 (i := 0) rfl rfl))) ?_
 simp only [pS, pN, pA, pC, pZ]
 refine stTells (v := (.bool true)) S7 rfl (ex_fn (vs := #[(.slice x0 p.name.length x1), (.slice y0 p.name.length y1)]) (map2 rfl rfl) rfl (ent_31 _ _)) (tells_bool (tells_same (same_spec _ _ _ _ p.name p.name (S7).sat h0 k0)) (beq_iff_eq.2 (rfl))) (fun w9 S10 => ?_)
 simp only [pS, pN, pA, pC, pZ]
 refine do_ rfl (.bool true) (ex_pick (b := true) rfl) ?_
 simp only [pS, pN, pA, pC, pZ]
 refine do_ rfl (.bool true) (ex_move _) ?_
 simp only [pS, pN, pA, pC, pZ]
 refine do_ rfl (.pointer (some ⟨n2, 1, none⟩)) (ex_field (q := ⟨n2, 1, none⟩) rfl (fa_27_1 _ _)) ?_
 simp only [pS, pN, pA, pC, pZ]
 refine do_ rfl (.slice x2 p.key.length x3) (ex_load rfl (load1 (nagg_25 _) (St.cell S10 (i := 1) rfl rfl))) ?_
 simp only [pS, pN, pA, pC, pZ]
 refine do_ rfl (.pointer (some ⟨n5, 1, none⟩)) (ex_field (q := ⟨n5, 1, none⟩) rfl (fa_27_1 _ _)) ?_
 simp only [pS, pN, pA, pC, pZ]
 refine do_ rfl (.slice y2 p.key.length y3) (ex_load rfl (load1 (nagg_25 _) (St.cell S10 (i := 0) rfl rfl))) ?_
 simp only [pS, pN, pA, pC, pZ]
 refine stTells (v := (.bool true)) S10 rfl (ex_fn (vs := #[(.slice x2 p.key.length x3), (.slice y2 p.key.length y3)]) (map2 rfl rfl) rfl (ent_31 _ _)) (tells_bool (tells_same (same_spec _ _ _ _ p.key p.key (S10).sat h1 k1)) (beq_iff_eq.2 (rfl))) (fun w11 S12 => ?_)
 simp only [pS, pN, pA, pC, pZ]
 refine do_ rfl (.bool true) (ex_pick (b := true) rfl) ?_
 simp only [pS, pN, pA, pC, pZ]
 refine do_ rfl (.bool true) (ex_move _) ?_
 simp only [pS, pN, pA, pC, pZ]
 refine do_ rfl (.pointer (some ⟨n2, 3, none⟩)) (ex_field (q := ⟨n2, 3, none⟩) rfl (fa_27_3 _ _)) ?_
 simp only [pS, pN, pA, pC, pZ]
 refine do_ rfl (.slice x4 p.value.length x5) (ex_load rfl (load1 (nagg_25 _) (St.cell S12 (i := 1) rfl rfl))) ?_
 simp only [pS, pN, pA, pC, pZ]
 refine do_ rfl (.pointer (some ⟨n5, 3, none⟩)) (ex_field (q := ⟨n5, 3, none⟩) rfl (fa_27_3 _ _)) ?_
 simp only [pS, pN, pA, pC, pZ]
 refine do_ rfl (.slice y4 p.value.length y5) (ex_load rfl (load1 (nagg_25 _) (St.cell S12 (i := 0) rfl rfl))) ?_
 simp only [pS, pN, pA, pC, pZ]
 refine stTells (v := (.bool true)) S12 rfl (ex_fn (vs := #[(.slice x4 p.value.length x5), (.slice y4 p.value.length y5)]) (map2 rfl rfl) rfl (ent_31 _ _)) (tells_bool (tells_same (same_spec _ _ _ _ p.value p.value (S12).sat h3 k3)) (beq_iff_eq.2 (rfl))) (fun w13 S14 => ?_)
 simp only [pS, pN, pA, pC, pZ]
 refine do_ rfl (.bool true) (ex_pick (b := true) rfl) ?_
 simp only [pS, pN, pA, pC, pZ]
 refine do_ rfl (.bool true) (ex_assign _) ?_
 simp only [pS, pN, pA, pC, pZ]
 refine wl_nil (hK8 _ _ ?_)
 refine wp_ret ?_
 (try simp only [Exit.then, Exit.inBlock, ↓reduceIte, Nat.reduceEqDiff])
 refine bodyPost_ret (v := (.bool true)) ?_ rfl ?_
 ·exact res_t rfl rfl
 ·exact ⟨rfl, S14.gr.below⟩
set_option maxHeartbeats 8000000 in
theorem writeAgain_walk (W : World) (v0 : Value) (l0 : List Pl) (z0 : Pls (whole W) v0 l0) (p1 : Pl) (v10 : Value) (z10 : Bs (whole W) v10 p1.name) (v11 : Value) (z11 : Bs (whole W) v11 p1.key) (v12 : Value) (z12 : Bs (whole W) v12 p1.value) (v2 : Value) (l2 : By) (z2 : Bs (whole W) v2 l2) :
    Calls Try.prog 10 #[v0, .agg #[v10, v11, v12, .bool p1.gone], v2] W (Tells W (.bool true)) := by
 obtain ⟨a0, c0, rfl, q0, q0'⟩ := Sl.shape z0
 obtain ⟨a10, c10, rfl, _⟩ := z10.shape
 obtain ⟨a11, c11, rfl, _⟩ := z11.shape
 obtain ⟨a12, c12, rfl, _⟩ := z12.shape
 obtain ⟨a2, c2, rfl, _⟩ := z2.shape
 have S := St.start (Sat.whole W)
 go_enter Try.func10, Try.ntmps10
 refine wp_seq_k (fun K1 hK1 => region_wl ?_)
 refine stNew S (v := fun n => .pointer (some ⟨n, 0, none⟩)) rfl (ex_box (v := (.agg #[(.slice a10 p1.name.length c10), (.slice a11 p1.key.length c11), (.slice a12 p1.value.length c12), (.bool p1.gone)])) rfl) (fun n2 w3 S4 => ?_)
 simp only [pS, pN, pA, pC, pZ]
 have S4 : St W (whole W) w3 (whole W) [⟨n2, [(.slice a10 p1.name.length c10), (.slice a11 p1.key.length c11), (.slice a12 p1.value.length c12), (.bool p1.gone)], 30⟩] [] := S4
 refine do_ rfl (.bool false) (ex_assign _) ?_
 simp only [pS, pN, pA, pC, pZ]
 refine wl_nil (hK1 _ _ ?_)
 refine wp_seq_k (fun K5 hK5 => region_wl ?_)
 refine do_ rfl (.slice a0 l0.length c0) (ex_move _) ?_
 simp only [pS, pN, pA, pC, pZ]
 refine stGives S4 rfl (ex_fn (vs := #[(.slice a0 l0.length c0), (.slice none 0 0)]) (map2 rfl rfl) rfl (ent_41 _ _)) (txnOf_spec _ _ _ _ l0 [] (S4).sat z0 (Sl.nil _ _ _)) ?_
 intro v11 w6 F8 S7 le9 R10
 obtain ⟨_, rfl, R12⟩ := R10
 obtain ⟨xa13, xc14, xa15, xc16, rfl, r17, r18⟩ := R12
 simp only [pS, pN, pA, pC, pZ]
 refine do_ rfl (.tuple #[(.agg #[(.int .i64 (txO l0 []).start), (.slice xa13 (txO l0 []).reads.length xc14), (.slice xa15 (txO l0 []).writes.length xc16)]), (.bool true)]) (ex_move _) ?_
 simp only [pS, pN, pA, pC, pZ]
 refine do_ rfl (.agg #[(.int .i64 (txO l0 []).start), (.slice xa13 (txO l0 []).reads.length xc14), (.slice xa15 (txO l0 []).writes.length xc16)]) (ex_extract rfl rfl) ?_
 simp only [pS, pN, pA, pC, pZ]
 refine do_ rfl (.bool true) (ex_extract rfl rfl) ?_
 simp only [pS, pN, pA, pC, pZ]
 refine stNew S7 (v := fun n => .pointer (some ⟨n, 0, none⟩)) rfl (ex_alloc (zero_75 _)) (fun n19 w20 S21 => ?_)
 simp only [pS, pN, pA, pC, pZ]
 have S21 : St W (whole W) w20 F8 [⟨n19, [(.int .i64 0), (.slice none 0 0), (.slice none 0 0)], 75⟩, ⟨n2, [(.slice a10 p1.name.length c10), (.slice a11 p1.key.length c11), (.slice a12 p1.value.length c12), (.bool p1.gone)], 30⟩] [] := S21
 refine stStore (i := 0) (v := (.agg #[(.int .i64 (txO l0 []).start), (.slice xa13 (txO l0 []).reads.length xc14), (.slice xa15 (txO l0 []).writes.length xc16)])) S21 rfl rfl rfl rfl (size_75) (allc3 rfl rfl rfl) (Nat.le_of_ble_eq_true rfl) (fun w22 S23 => ?_)
 simp only [pS, pN, pA, pC, pZ]
 have S23 : St W (whole W) w22 F8 [⟨n19, [(.int .i64 (txO l0 []).start), (.slice xa13 (txO l0 []).reads.length xc14), (.slice xa15 (txO l0 []).writes.length xc16)], 75⟩, ⟨n2, [(.slice a10 p1.name.length c10), (.slice a11 p1.key.length c11), (.slice a12 p1.value.length c12), (.bool p1.gone)], 30⟩] [] := S23
 refine do_ rfl (.bool true) (ex_assign _) ?_
 simp only [pS, pN, pA, pC, pZ]
 refine wl_nil (hK5 _ _ ?_)
 refine wp_seq_k (fun K24 hK24 => region_wl ?_)
 refine do_ rfl (.agg #[(.slice a10 p1.name.length c10), (.slice a11 p1.key.length c11), (.slice a12 p1.value.length c12), (.bool p1.gone)]) (ex_load rfl (loadN (cs := [(.slice a10 p1.name.length c10), (.slice a11 p1.key.length c11), (.slice a12 p1.value.length c12), (.bool p1.gone)]) Try.underlying30 rfl (size_30) (St.range S23 (i := 1) rfl 0 [(.slice a10 p1.name.length c10), (.slice a11 p1.key.length c11), (.slice a12 p1.value.length c12), (.bool p1.gone)] (sub_range 0 rfl)))) ?_
 simp only [pS, pN, pA, pC, pZ]
 refine stGives S23 rfl (ex_fn (vs := #[(.agg #[(.slice a10 p1.name.length c10), (.slice a11 p1.key.length c11), (.slice a12 p1.value.length c12), (.bool p1.gone)])]) (map1 rfl) rfl (ent_19 _ _)) (keepWrite_spec _ _ _ p1 (S23).sat ⟨_, _, _, _, _, _, rfl, (z10.mono le9), (z11.mono le9), (z12.mono le9)⟩) ?_
 intro v30 w25 F27 S26 le28 R29
 obtain ⟨xa31, xc32, xa33, xc34, xa35, xc36, rfl, r37, r38, r39⟩ := R29
 simp only [pS, pN, pA, pC, pZ]
 refine stNew S26 (v := fun n => .pointer (some ⟨n, 0, none⟩)) rfl (ex_alloc (zero_27 _)) (fun n40 w41 S42 => ?_)
 simp only [pS, pN, pA, pC, pZ]
 have S42 : St W (whole W) w41 F27 [⟨n40, [(.slice none 0 0), (.slice none 0 0), (.bool false), (.slice none 0 0)], 27⟩, ⟨n19, [(.int .i64 (txO l0 []).start), (.slice xa13 (txO l0 []).reads.length xc14), (.slice xa15 (txO l0 []).writes.length xc16)], 75⟩, ⟨n2, [(.slice a10 p1.name.length c10), (.slice a11 p1.key.length c11), (.slice a12 p1.value.length c12), (.bool p1.gone)], 30⟩] [] := S42
 refine stStore (i := 0) (v := (.agg #[(.slice xa31 (writeP p1).name.length xc32), (.slice xa33 (writeP p1).key.length xc34), (.bool (writeP p1).gone), (.slice xa35 (writeP p1).value.length xc36)])) S42 rfl rfl rfl rfl (size_27) (allc4 rfl rfl rfl rfl) (Nat.le_of_ble_eq_true rfl) (fun w43 S44 => ?_)
 simp only [pS, pN, pA, pC, pZ]
 have S44 : St W (whole W) w43 F27 [⟨n40, [(.slice xa31 (writeP p1).name.length xc32), (.slice xa33 (writeP p1).key.length xc34), (.bool (writeP p1).gone), (.slice xa35 (writeP p1).value.length xc36)], 27⟩, ⟨n19, [(.int .i64 (txO l0 []).start), (.slice xa13 (txO l0 []).reads.length xc14), (.slice xa15 (txO l0 []).writes.length xc16)], 75⟩, ⟨n2, [(.slice a10 p1.name.length c10), (.slice a11 p1.key.length c11), (.slice a12 p1.value.length c12), (.bool p1.gone)], 30⟩] [] := S44
 refine wl_nil (hK24 _ _ ?_)
 refine wp_seq_k (fun K45 hK45 => ?_)
 have hT := txO_ok l0 []
 obtain ⟨A, hA⟩ := writeX_room (t := (txO l0 [])) (w := (writeP p1)) (by omega)
 obtain ⟨B, hB, hC, hBl, hAl⟩ := write_again (u := (⟨(writeP p1).name, (writeP p1).key, false, l2.take 32⟩ : Wr)) hA rfl rfl
 have hR := writeP_ok p1
 have hU : WrOk (⟨(writeP p1).name, (writeP p1).key, false, l2.take 32⟩ : Wr) := ⟨hR.name, hR.key1, hR.key2, by simp; omega, fun h => by cases h⟩
 have hAk := writeX_ok hT.1 hR hA
 have hBk := writeX_ok hAk hU hB
 have hAn := hAk.nw
 refine region_wl ?_
 refine do_ rfl (.agg #[(.int .i64 (txO l0 []).start), (.slice xa13 (txO l0 []).reads.length xc14), (.slice xa15 (txO l0 []).writes.length xc16)]) (ex_load rfl (loadN (cs := [(.int .i64 (txO l0 []).start), (.slice xa13 (txO l0 []).reads.length xc14), (.slice xa15 (txO l0 []).writes.length xc16)]) Try.underlying75 rfl (size_75) (St.range S44 (i := 1) rfl 0 [(.int .i64 (txO l0 []).start), (.slice xa13 (txO l0 []).reads.length xc14), (.slice xa15 (txO l0 []).writes.length xc16)] (sub_range 0 rfl)))) ?_
 simp only [pS, pN, pA, pC, pZ]
 refine do_ rfl (.agg #[(.slice xa31 (writeP p1).name.length xc32), (.slice xa33 (writeP p1).key.length xc34), (.bool (writeP p1).gone), (.slice xa35 (writeP p1).value.length xc36)]) (ex_load rfl (loadN (cs := [(.slice xa31 (writeP p1).name.length xc32), (.slice xa33 (writeP p1).key.length xc34), (.bool (writeP p1).gone), (.slice xa35 (writeP p1).value.length xc36)]) Try.underlying27 rfl (size_27) (St.range S44 (i := 0) rfl 0 [(.slice xa31 (writeP p1).name.length xc32), (.slice xa33 (writeP p1).key.length xc34), (.bool (writeP p1).gone), (.slice xa35 (writeP p1).value.length xc36)] (sub_range 0 rfl)))) ?_
 simp only [pS, pN, pA, pC, pZ]
 refine stGives S44 rfl (ex_fn (vs := #[(.agg #[(.int .i64 (txO l0 []).start), (.slice xa13 (txO l0 []).reads.length xc14), (.slice xa15 (txO l0 []).writes.length xc16)]), (.agg #[(.slice xa31 (writeP p1).name.length xc32), (.slice xa33 (writeP p1).key.length xc34), (.bool (writeP p1).gone), (.slice xa35 (writeP p1).value.length xc36)])]) (map2 rfl rfl) rfl (ent_42 _ _)) (txnWriteIs_spec _ _ _ _ (txO l0 []) (writeP p1) A (S44).sat ⟨_, _, _, _, rfl, (r17.mono le28), (r18.mono le28)⟩ ⟨_, _, _, _, _, _, rfl, r37, r38, r39⟩ hT.1 hR hA) ?_
 intro v51 w46 F48 S47 le49 R50
 obtain ⟨_, rfl, R52⟩ := R50
 obtain ⟨xa53, xc54, xa55, xc56, rfl, r57, r58⟩ := R52
 simp only [pS, pN, pA, pC, pZ]
 refine do_ rfl (.tuple #[(.agg #[(.int .i64 A.start), (.slice xa53 A.reads.length xc54), (.slice xa55 A.writes.length xc56)]), (.int .i64 0)]) (ex_move _) ?_
 simp only [pS, pN, pA, pC, pZ]
 refine do_ rfl (.agg #[(.int .i64 A.start), (.slice xa53 A.reads.length xc54), (.slice xa55 A.writes.length xc56)]) (ex_extract rfl rfl) ?_
 simp only [pS, pN, pA, pC, pZ]
 refine do_ rfl (.int .i64 0) (ex_extract rfl rfl) ?_
 simp only [pS, pN, pA, pC, pZ]
 refine stNew S47 (v := fun n => .pointer (some ⟨n, 0, none⟩)) rfl (ex_alloc (zero_75 _)) (fun n59 w60 S61 => ?_)
 simp only [pS, pN, pA, pC, pZ]
 have S61 : St W (whole W) w60 F48 [⟨n59, [(.int .i64 0), (.slice none 0 0), (.slice none 0 0)], 75⟩, ⟨n40, [(.slice xa31 (writeP p1).name.length xc32), (.slice xa33 (writeP p1).key.length xc34), (.bool (writeP p1).gone), (.slice xa35 (writeP p1).value.length xc36)], 27⟩, ⟨n19, [(.int .i64 (txO l0 []).start), (.slice xa13 (txO l0 []).reads.length xc14), (.slice xa15 (txO l0 []).writes.length xc16)], 75⟩, ⟨n2, [(.slice a10 p1.name.length c10), (.slice a11 p1.key.length c11), (.slice a12 p1.value.length c12), (.bool p1.gone)], 30⟩] [] := S61
 refine stStore (i := 0) (v := (.agg #[(.int .i64 A.start), (.slice xa53 A.reads.length xc54), (.slice xa55 A.writes.length xc56)])) S61 rfl rfl rfl rfl (size_75) (allc3 rfl rfl rfl) (Nat.le_of_ble_eq_true rfl) (fun w62 S63 => ?_)
 simp only [pS, pN, pA, pC, pZ]
 have S63 : St W (whole W) w62 F48 [⟨n59, [(.int .i64 A.start), (.slice xa53 A.reads.length xc54), (.slice xa55 A.writes.length xc56)], 75⟩, ⟨n40, [(.slice xa31 (writeP p1).name.length xc32), (.slice xa33 (writeP p1).key.length xc34), (.bool (writeP p1).gone), (.slice xa35 (writeP p1).value.length xc36)], 27⟩, ⟨n19, [(.int .i64 (txO l0 []).start), (.slice xa13 (txO l0 []).reads.length xc14), (.slice xa15 (txO l0 []).writes.length xc16)], 75⟩, ⟨n2, [(.slice a10 p1.name.length c10), (.slice a11 p1.key.length c11), (.slice a12 p1.value.length c12), (.bool p1.gone)], 30⟩] [] := S63
 refine do_ rfl (.int .i64 0) (ex_assign _) ?_
 simp only [pS, pN, pA, pC, pZ]
 refine wl_nil (hK45 _ _ ?_)
 refine wp_seq_k (fun K64 hK64 => region_wl ?_)
 refine do_ rfl (.agg #[(.slice xa31 (writeP p1).name.length xc32), (.slice xa33 (writeP p1).key.length xc34), (.bool (writeP p1).gone), (.slice xa35 (writeP p1).value.length xc36)]) (ex_load rfl (loadN (cs := [(.slice xa31 (writeP p1).name.length xc32), (.slice xa33 (writeP p1).key.length xc34), (.bool (writeP p1).gone), (.slice xa35 (writeP p1).value.length xc36)]) Try.underlying27 rfl (size_27) (St.range S63 (i := 1) rfl 0 [(.slice xa31 (writeP p1).name.length xc32), (.slice xa33 (writeP p1).key.length xc34), (.bool (writeP p1).gone), (.slice xa35 (writeP p1).value.length xc36)] (sub_range 0 rfl)))) ?_
 simp only [pS, pN, pA, pC, pZ]
 refine stNew S63 (v := fun n => .pointer (some ⟨n, 0, none⟩)) rfl (ex_alloc (zero_27 _)) (fun n65 w66 S67 => ?_)
 simp only [pS, pN, pA, pC, pZ]
 have S67 : St W (whole W) w66 F48 [⟨n65, [(.slice none 0 0), (.slice none 0 0), (.bool false), (.slice none 0 0)], 27⟩, ⟨n59, [(.int .i64 A.start), (.slice xa53 A.reads.length xc54), (.slice xa55 A.writes.length xc56)], 75⟩, ⟨n40, [(.slice xa31 (writeP p1).name.length xc32), (.slice xa33 (writeP p1).key.length xc34), (.bool (writeP p1).gone), (.slice xa35 (writeP p1).value.length xc36)], 27⟩, ⟨n19, [(.int .i64 (txO l0 []).start), (.slice xa13 (txO l0 []).reads.length xc14), (.slice xa15 (txO l0 []).writes.length xc16)], 75⟩, ⟨n2, [(.slice a10 p1.name.length c10), (.slice a11 p1.key.length c11), (.slice a12 p1.value.length c12), (.bool p1.gone)], 30⟩] [] := S67
 refine stStore (i := 0) (v := (.agg #[(.slice xa31 (writeP p1).name.length xc32), (.slice xa33 (writeP p1).key.length xc34), (.bool (writeP p1).gone), (.slice xa35 (writeP p1).value.length xc36)])) S67 rfl rfl rfl rfl (size_27) (allc4 rfl rfl rfl rfl) (Nat.le_of_ble_eq_true rfl) (fun w68 S69 => ?_)
 simp only [pS, pN, pA, pC, pZ]
 have S69 : St W (whole W) w68 F48 [⟨n65, [(.slice xa31 (writeP p1).name.length xc32), (.slice xa33 (writeP p1).key.length xc34), (.bool (writeP p1).gone), (.slice xa35 (writeP p1).value.length xc36)], 27⟩, ⟨n59, [(.int .i64 A.start), (.slice xa53 A.reads.length xc54), (.slice xa55 A.writes.length xc56)], 75⟩, ⟨n40, [(.slice xa31 (writeP p1).name.length xc32), (.slice xa33 (writeP p1).key.length xc34), (.bool (writeP p1).gone), (.slice xa35 (writeP p1).value.length xc36)], 27⟩, ⟨n19, [(.int .i64 (txO l0 []).start), (.slice xa13 (txO l0 []).reads.length xc14), (.slice xa15 (txO l0 []).writes.length xc16)], 75⟩, ⟨n2, [(.slice a10 p1.name.length c10), (.slice a11 p1.key.length c11), (.slice a12 p1.value.length c12), (.bool p1.gone)], 30⟩] [] := S69
 refine wl_nil (hK64 _ _ ?_)
 refine wp_seq_k (fun K70 hK70 => region_wl ?_)
 refine do_ rfl (.pointer (some ⟨n65, 2, none⟩)) (ex_field (q := ⟨n65, 2, none⟩) rfl (fa_27_2 _ _)) ?_
 simp only [pS, pN, pA, pC, pZ]
 refine stStore (i := 0) (v := (.bool false)) S69 rfl rfl rfl rfl (size_4) (allc1 rfl) (Nat.le_of_ble_eq_true rfl) (fun w71 S72 => ?_)
 simp only [pS, pN, pA, pC, pZ]
 have S72 : St W (whole W) w71 F48 [⟨n65, [(.slice xa31 (writeP p1).name.length xc32), (.slice xa33 (writeP p1).key.length xc34), (.bool false), (.slice xa35 (writeP p1).value.length xc36)], 27⟩, ⟨n59, [(.int .i64 A.start), (.slice xa53 A.reads.length xc54), (.slice xa55 A.writes.length xc56)], 75⟩, ⟨n40, [(.slice xa31 (writeP p1).name.length xc32), (.slice xa33 (writeP p1).key.length xc34), (.bool (writeP p1).gone), (.slice xa35 (writeP p1).value.length xc36)], 27⟩, ⟨n19, [(.int .i64 (txO l0 []).start), (.slice xa13 (txO l0 []).reads.length xc14), (.slice xa15 (txO l0 []).writes.length xc16)], 75⟩, ⟨n2, [(.slice a10 p1.name.length c10), (.slice a11 p1.key.length c11), (.slice a12 p1.value.length c12), (.bool p1.gone)], 30⟩] [] := S72
 refine wl_nil (hK70 _ _ ?_)
 refine wp_seq_k (fun K73 hK73 => region_wl ?_)
 refine do_ rfl (.slice a2 l2.length c2) (ex_move _) ?_
 simp only [pS, pN, pA, pC, pZ]
 refine stGives S72 rfl (ex_fn (vs := #[(.slice a2 l2.length c2), (.int .i64 32)]) (map2 rfl rfl) rfl (ent_43 _ _)) (some_spec _ _ _ l2 32 (S72).sat (z2.mono ((le9.trans le28).trans le49)) (by omega) (by omega)) ?_
 intro v79 w74 F76 S75 le77 R78
 obtain ⟨xa80, xc81, rfl, _⟩ := R78.shape
 simp only [pS, pN, pA, pC, pZ]
 refine do_ rfl (.pointer (some ⟨n65, 3, none⟩)) (ex_field (q := ⟨n65, 3, none⟩) rfl (fa_27_3 _ _)) ?_
 simp only [pS, pN, pA, pC, pZ]
 refine stStore (i := 0) (v := (.slice xa80 (l2.take 32).length xc81)) S75 rfl rfl rfl rfl (size_25) (allc1 rfl) (Nat.le_of_ble_eq_true rfl) (fun w82 S83 => ?_)
 simp only [pS, pN, pA, pC, pZ]
 have S83 : St W (whole W) w82 F76 [⟨n65, [(.slice xa31 (writeP p1).name.length xc32), (.slice xa33 (writeP p1).key.length xc34), (.bool false), (.slice xa80 (l2.take 32).length xc81)], 27⟩, ⟨n59, [(.int .i64 A.start), (.slice xa53 A.reads.length xc54), (.slice xa55 A.writes.length xc56)], 75⟩, ⟨n40, [(.slice xa31 (writeP p1).name.length xc32), (.slice xa33 (writeP p1).key.length xc34), (.bool (writeP p1).gone), (.slice xa35 (writeP p1).value.length xc36)], 27⟩, ⟨n19, [(.int .i64 (txO l0 []).start), (.slice xa13 (txO l0 []).reads.length xc14), (.slice xa15 (txO l0 []).writes.length xc16)], 75⟩, ⟨n2, [(.slice a10 p1.name.length c10), (.slice a11 p1.key.length c11), (.slice a12 p1.value.length c12), (.bool p1.gone)], 30⟩] [] := S83
 refine wl_nil (hK73 _ _ ?_)
 refine wp_seq_k (fun K84 hK84 => region_wl ?_)
 refine do_ rfl (.agg #[(.int .i64 A.start), (.slice xa53 A.reads.length xc54), (.slice xa55 A.writes.length xc56)]) (ex_load rfl (loadN (cs := [(.int .i64 A.start), (.slice xa53 A.reads.length xc54), (.slice xa55 A.writes.length xc56)]) Try.underlying75 rfl (size_75) (St.range S83 (i := 1) rfl 0 [(.int .i64 A.start), (.slice xa53 A.reads.length xc54), (.slice xa55 A.writes.length xc56)] (sub_range 0 rfl)))) ?_
 simp only [pS, pN, pA, pC, pZ]
 refine do_ rfl (.agg #[(.slice xa31 (writeP p1).name.length xc32), (.slice xa33 (writeP p1).key.length xc34), (.bool false), (.slice xa80 (l2.take 32).length xc81)]) (ex_load rfl (loadN (cs := [(.slice xa31 (writeP p1).name.length xc32), (.slice xa33 (writeP p1).key.length xc34), (.bool false), (.slice xa80 (l2.take 32).length xc81)]) Try.underlying27 rfl (size_27) (St.range S83 (i := 0) rfl 0 [(.slice xa31 (writeP p1).name.length xc32), (.slice xa33 (writeP p1).key.length xc34), (.bool false), (.slice xa80 (l2.take 32).length xc81)] (sub_range 0 rfl)))) ?_
 simp only [pS, pN, pA, pC, pZ]
 refine stGives S83 rfl (ex_fn (vs := #[(.agg #[(.int .i64 A.start), (.slice xa53 A.reads.length xc54), (.slice xa55 A.writes.length xc56)]), (.agg #[(.slice xa31 (writeP p1).name.length xc32), (.slice xa33 (writeP p1).key.length xc34), (.bool false), (.slice xa80 (l2.take 32).length xc81)])]) (map2 rfl rfl) rfl (ent_42 _ _)) (txnWriteIs_spec _ _ _ _ A (⟨(writeP p1).name, (writeP p1).key, false, (l2.take 32)⟩ : Wr) B (S83).sat ⟨_, _, _, _, rfl, (r57.mono le77), (r58.mono le77)⟩ ⟨_, _, _, _, _, _, rfl, (r37.mono (le49.trans le77)), (r38.mono (le49.trans le77)), R78⟩ hAk hU hB) ?_
 intro v90 w85 F87 S86 le88 R89
 obtain ⟨_, rfl, R91⟩ := R89
 obtain ⟨xa92, xc93, xa94, xc95, rfl, r96, r97⟩ := R91
 simp only [pS, pN, pA, pC, pZ]
 refine do_ rfl (.tuple #[(.agg #[(.int .i64 B.start), (.slice xa92 B.reads.length xc93), (.slice xa94 B.writes.length xc95)]), (.int .i64 0)]) (ex_move _) ?_
 simp only [pS, pN, pA, pC, pZ]
 refine do_ rfl (.agg #[(.int .i64 B.start), (.slice xa92 B.reads.length xc93), (.slice xa94 B.writes.length xc95)]) (ex_extract rfl rfl) ?_
 simp only [pS, pN, pA, pC, pZ]
 refine do_ rfl (.int .i64 0) (ex_extract rfl rfl) ?_
 simp only [pS, pN, pA, pC, pZ]
 refine stNew S86 (v := fun n => .pointer (some ⟨n, 0, none⟩)) rfl (ex_alloc (zero_75 _)) (fun n98 w99 S100 => ?_)
 simp only [pS, pN, pA, pC, pZ]
 have S100 : St W (whole W) w99 F87 [⟨n98, [(.int .i64 0), (.slice none 0 0), (.slice none 0 0)], 75⟩, ⟨n65, [(.slice xa31 (writeP p1).name.length xc32), (.slice xa33 (writeP p1).key.length xc34), (.bool false), (.slice xa80 (l2.take 32).length xc81)], 27⟩, ⟨n59, [(.int .i64 A.start), (.slice xa53 A.reads.length xc54), (.slice xa55 A.writes.length xc56)], 75⟩, ⟨n40, [(.slice xa31 (writeP p1).name.length xc32), (.slice xa33 (writeP p1).key.length xc34), (.bool (writeP p1).gone), (.slice xa35 (writeP p1).value.length xc36)], 27⟩, ⟨n19, [(.int .i64 (txO l0 []).start), (.slice xa13 (txO l0 []).reads.length xc14), (.slice xa15 (txO l0 []).writes.length xc16)], 75⟩, ⟨n2, [(.slice a10 p1.name.length c10), (.slice a11 p1.key.length c11), (.slice a12 p1.value.length c12), (.bool p1.gone)], 30⟩] [] := S100
 refine stStore (i := 0) (v := (.agg #[(.int .i64 B.start), (.slice xa92 B.reads.length xc93), (.slice xa94 B.writes.length xc95)])) S100 rfl rfl rfl rfl (size_75) (allc3 rfl rfl rfl) (Nat.le_of_ble_eq_true rfl) (fun w101 S102 => ?_)
 simp only [pS, pN, pA, pC, pZ]
 have S102 : St W (whole W) w101 F87 [⟨n98, [(.int .i64 B.start), (.slice xa92 B.reads.length xc93), (.slice xa94 B.writes.length xc95)], 75⟩, ⟨n65, [(.slice xa31 (writeP p1).name.length xc32), (.slice xa33 (writeP p1).key.length xc34), (.bool false), (.slice xa80 (l2.take 32).length xc81)], 27⟩, ⟨n59, [(.int .i64 A.start), (.slice xa53 A.reads.length xc54), (.slice xa55 A.writes.length xc56)], 75⟩, ⟨n40, [(.slice xa31 (writeP p1).name.length xc32), (.slice xa33 (writeP p1).key.length xc34), (.bool (writeP p1).gone), (.slice xa35 (writeP p1).value.length xc36)], 27⟩, ⟨n19, [(.int .i64 (txO l0 []).start), (.slice xa13 (txO l0 []).reads.length xc14), (.slice xa15 (txO l0 []).writes.length xc16)], 75⟩, ⟨n2, [(.slice a10 p1.name.length c10), (.slice a11 p1.key.length c11), (.slice a12 p1.value.length c12), (.bool p1.gone)], 30⟩] [] := S102
 refine do_ rfl (.int .i64 0) (ex_assign _) ?_
 simp only [pS, pN, pA, pC, pZ]
 refine wl_nil (hK84 _ _ ?_)
 refine wp_seq_k (fun K103 hK103 => region_wl ?_)
 refine do_ rfl (.agg #[(.int .i64 B.start), (.slice xa92 B.reads.length xc93), (.slice xa94 B.writes.length xc95)]) (ex_load rfl (loadN (cs := [(.int .i64 B.start), (.slice xa92 B.reads.length xc93), (.slice xa94 B.writes.length xc95)]) Try.underlying75 rfl (size_75) (St.range S102 (i := 0) rfl 0 [(.int .i64 B.start), (.slice xa92 B.reads.length xc93), (.slice xa94 B.writes.length xc95)] (sub_range 0 rfl)))) ?_
 simp only [pS, pN, pA, pC, pZ]
 refine do_ rfl (.agg #[(.slice xa31 (writeP p1).name.length xc32), (.slice xa33 (writeP p1).key.length xc34), (.bool (writeP p1).gone), (.slice xa35 (writeP p1).value.length xc36)]) (ex_load rfl (loadN (cs := [(.slice xa31 (writeP p1).name.length xc32), (.slice xa33 (writeP p1).key.length xc34), (.bool (writeP p1).gone), (.slice xa35 (writeP p1).value.length xc36)]) Try.underlying27 rfl (size_27) (St.range S102 (i := 3) rfl 0 [(.slice xa31 (writeP p1).name.length xc32), (.slice xa33 (writeP p1).key.length xc34), (.bool (writeP p1).gone), (.slice xa35 (writeP p1).value.length xc36)] (sub_range 0 rfl)))) ?_
 simp only [pS, pN, pA, pC, pZ]
 refine stGives S102 rfl (ex_fn (vs := #[(.agg #[(.int .i64 B.start), (.slice xa92 B.reads.length xc93), (.slice xa94 B.writes.length xc95)]), (.agg #[(.slice xa31 (writeP p1).name.length xc32), (.slice xa33 (writeP p1).key.length xc34), (.bool (writeP p1).gone), (.slice xa35 (writeP p1).value.length xc36)])]) (map2 rfl rfl) rfl (ent_42 _ _)) (txnWriteIs_spec _ _ _ _ B (writeP p1) A (S102).sat ⟨_, _, _, _, rfl, r96, r97⟩ ⟨_, _, _, _, _, _, rfl, (r37.mono ((le49.trans le77).trans le88)), (r38.mono ((le49.trans le77).trans le88)), (r39.mono ((le49.trans le77).trans le88))⟩ hBk hR hC) ?_
 intro v109 w104 F106 S105 le107 R108
 obtain ⟨_, rfl, R110⟩ := R108
 obtain ⟨xa111, xc112, xa113, xc114, rfl, r115, r116⟩ := R110
 simp only [pS, pN, pA, pC, pZ]
 refine do_ rfl (.tuple #[(.agg #[(.int .i64 A.start), (.slice xa111 A.reads.length xc112), (.slice xa113 A.writes.length xc114)]), (.int .i64 0)]) (ex_move _) ?_
 simp only [pS, pN, pA, pC, pZ]
 refine do_ rfl (.agg #[(.int .i64 A.start), (.slice xa111 A.reads.length xc112), (.slice xa113 A.writes.length xc114)]) (ex_extract rfl rfl) ?_
 simp only [pS, pN, pA, pC, pZ]
 refine do_ rfl (.int .i64 0) (ex_extract rfl rfl) ?_
 simp only [pS, pN, pA, pC, pZ]
 refine stNew S105 (v := fun n => .pointer (some ⟨n, 0, none⟩)) rfl (ex_alloc (zero_75 _)) (fun n117 w118 S119 => ?_)
 simp only [pS, pN, pA, pC, pZ]
 have S119 : St W (whole W) w118 F106 [⟨n117, [(.int .i64 0), (.slice none 0 0), (.slice none 0 0)], 75⟩, ⟨n98, [(.int .i64 B.start), (.slice xa92 B.reads.length xc93), (.slice xa94 B.writes.length xc95)], 75⟩, ⟨n65, [(.slice xa31 (writeP p1).name.length xc32), (.slice xa33 (writeP p1).key.length xc34), (.bool false), (.slice xa80 (l2.take 32).length xc81)], 27⟩, ⟨n59, [(.int .i64 A.start), (.slice xa53 A.reads.length xc54), (.slice xa55 A.writes.length xc56)], 75⟩, ⟨n40, [(.slice xa31 (writeP p1).name.length xc32), (.slice xa33 (writeP p1).key.length xc34), (.bool (writeP p1).gone), (.slice xa35 (writeP p1).value.length xc36)], 27⟩, ⟨n19, [(.int .i64 (txO l0 []).start), (.slice xa13 (txO l0 []).reads.length xc14), (.slice xa15 (txO l0 []).writes.length xc16)], 75⟩, ⟨n2, [(.slice a10 p1.name.length c10), (.slice a11 p1.key.length c11), (.slice a12 p1.value.length c12), (.bool p1.gone)], 30⟩] [] := S119
 refine stStore (i := 0) (v := (.agg #[(.int .i64 A.start), (.slice xa111 A.reads.length xc112), (.slice xa113 A.writes.length xc114)])) S119 rfl rfl rfl rfl (size_75) (allc3 rfl rfl rfl) (Nat.le_of_ble_eq_true rfl) (fun w120 S121 => ?_)
 simp only [pS, pN, pA, pC, pZ]
 have S121 : St W (whole W) w120 F106 [⟨n117, [(.int .i64 A.start), (.slice xa111 A.reads.length xc112), (.slice xa113 A.writes.length xc114)], 75⟩, ⟨n98, [(.int .i64 B.start), (.slice xa92 B.reads.length xc93), (.slice xa94 B.writes.length xc95)], 75⟩, ⟨n65, [(.slice xa31 (writeP p1).name.length xc32), (.slice xa33 (writeP p1).key.length xc34), (.bool false), (.slice xa80 (l2.take 32).length xc81)], 27⟩, ⟨n59, [(.int .i64 A.start), (.slice xa53 A.reads.length xc54), (.slice xa55 A.writes.length xc56)], 75⟩, ⟨n40, [(.slice xa31 (writeP p1).name.length xc32), (.slice xa33 (writeP p1).key.length xc34), (.bool (writeP p1).gone), (.slice xa35 (writeP p1).value.length xc36)], 27⟩, ⟨n19, [(.int .i64 (txO l0 []).start), (.slice xa13 (txO l0 []).reads.length xc14), (.slice xa15 (txO l0 []).writes.length xc16)], 75⟩, ⟨n2, [(.slice a10 p1.name.length c10), (.slice a11 p1.key.length c11), (.slice a12 p1.value.length c12), (.bool p1.gone)], 30⟩] [] := S121
 refine do_ rfl (.int .i64 0) (ex_assign _) ?_
 simp only [pS, pN, pA, pC, pZ]
 refine wl_nil (hK103 _ _ ?_)
 refine wp_seq_k (fun K122 hK122 => ?_)
 refine wp_seq_k (fun K123 hK123 => region_wl ?_)
 refine do_ rfl (.bool true) (ex_move _) ?_
 simp only [pS, pN, pA, pC, pZ]
 refine do_ rfl (.bool false) (ex_not (b := true) rfl rfl) ?_
 simp only [pS, pN, pA, pC, pZ]
 refine do_ rfl (.bool false) (ex_move _) ?_
 simp only [pS, pN, pA, pC, pZ]
 refine do_ rfl (.int .i64 0) (ex_move _) ?_
 simp only [pS, pN, pA, pC, pZ]
 refine do_ rfl (.bool false) (ex_neq (b := false) rfl rfl (by decide)) ?_
 simp only [pS, pN, pA, pC, pZ]
 refine do_ rfl (.bool false) (ex_pick (b := false) rfl) ?_
 simp only [pS, pN, pA, pC, pZ]
 refine do_ rfl (.bool false) (ex_move _) ?_
 simp only [pS, pN, pA, pC, pZ]
 refine do_ rfl (.int .i64 0) (ex_move _) ?_
 simp only [pS, pN, pA, pC, pZ]
 refine do_ rfl (.bool false) (ex_neq (b := false) rfl rfl (by decide)) ?_
 simp only [pS, pN, pA, pC, pZ]
 refine do_ rfl (.bool false) (ex_pick (b := false) rfl) ?_
 simp only [pS, pN, pA, pC, pZ]
 refine do_ rfl (.bool false) (ex_move _) ?_
 simp only [pS, pN, pA, pC, pZ]
 refine do_ rfl (.int .i64 0) (ex_move _) ?_
 simp only [pS, pN, pA, pC, pZ]
 refine do_ rfl (.bool false) (ex_neq (b := false) rfl rfl (by decide)) ?_
 simp only [pS, pN, pA, pC, pZ]
 refine do_ rfl (.bool false) (ex_pick (b := false) rfl) ?_
 simp only [pS, pN, pA, pC, pZ]
 refine do_ rfl (.bool false) (ex_move _) ?_
 simp only [pS, pN, pA, pC, pZ]
 refine do_ rfl (.pointer (some ⟨n59, 2, none⟩)) (ex_field (q := ⟨n59, 2, none⟩) rfl (fa_75_2 _ _)) ?_
 simp only [pS, pN, pA, pC, pZ]
 refine do_ rfl (.slice xa55 A.writes.length xc56) (ex_load rfl (load1 (nagg_44 _) (St.cell S121 (i := 3) rfl rfl))) ?_
 simp only [pS, pN, pA, pC, pZ]
 refine do_ rfl (.int .i64 ((A.writes.length : Nat) : Int)) (ex_len Try.underlying44 rfl) ?_
 simp only [pS, pN, pA, pC, pZ]
 refine do_ rfl (.pointer (some ⟨n98, 2, none⟩)) (ex_field (q := ⟨n98, 2, none⟩) rfl (fa_75_2 _ _)) ?_
 simp only [pS, pN, pA, pC, pZ]
 refine do_ rfl (.slice xa94 B.writes.length xc95) (ex_load rfl (load1 (nagg_44 _) (St.cell S121 (i := 1) rfl rfl))) ?_
 simp only [pS, pN, pA, pC, pZ]
 refine do_ rfl (.int .i64 ((B.writes.length : Nat) : Int)) (ex_len Try.underlying44 rfl) ?_
 simp only [pS, pN, pA, pC, pZ]
 refine do_ rfl (.bool false) (ex_neq (m := ((A.writes.length : Nat) : Int)) (n := ((B.writes.length : Nat) : Int)) (b := false) rfl rfl (bne_eq_false_iff_eq.2 (by omega))) ?_
 simp only [pS, pN, pA, pC, pZ]
 refine do_ rfl (.bool false) (ex_pick (b := false) rfl) ?_
 simp only [pS, pN, pA, pC, pZ]
 refine do_ rfl (.bool false) (ex_move _) ?_
 simp only [pS, pN, pA, pC, pZ]
 refine do_ rfl (.pointer (some ⟨n59, 2, none⟩)) (ex_field (q := ⟨n59, 2, none⟩) rfl (fa_75_2 _ _)) ?_
 simp only [pS, pN, pA, pC, pZ]
 refine do_ rfl (.slice xa55 A.writes.length xc56) (ex_load rfl (load1 (nagg_44 _) (St.cell S121 (i := 3) rfl rfl))) ?_
 simp only [pS, pN, pA, pC, pZ]
 refine do_ rfl (.int .i64 ((A.writes.length : Nat) : Int)) (ex_len Try.underlying44 rfl) ?_
 simp only [pS, pN, pA, pC, pZ]
 refine do_ rfl (.pointer (some ⟨n117, 2, none⟩)) (ex_field (q := ⟨n117, 2, none⟩) rfl (fa_75_2 _ _)) ?_
 simp only [pS, pN, pA, pC, pZ]
 refine do_ rfl (.slice xa113 A.writes.length xc114) (ex_load rfl (load1 (nagg_44 _) (St.cell S121 (i := 0) rfl rfl))) ?_
 simp only [pS, pN, pA, pC, pZ]
 refine do_ rfl (.int .i64 ((A.writes.length : Nat) : Int)) (ex_len Try.underlying44 rfl) ?_
 simp only [pS, pN, pA, pC, pZ]
 refine do_ rfl (.bool false) (ex_neq (m := ((A.writes.length : Nat) : Int)) (n := ((A.writes.length : Nat) : Int)) (b := false) rfl rfl (bne_eq_false_iff_eq.2 (rfl))) ?_
 simp only [pS, pN, pA, pC, pZ]
 refine do_ rfl (.bool false) (ex_pick (b := false) rfl) ?_
 simp only [pS, pN, pA, pC, pZ]
 refine do_ rfl (.bool false) (ex_move _) ?_
 simp only [pS, pN, pA, pC, pZ]
 refine do_ rfl (.pointer (some ⟨n59, 2, none⟩)) (ex_field (q := ⟨n59, 2, none⟩) rfl (fa_75_2 _ _)) ?_
 simp only [pS, pN, pA, pC, pZ]
 refine do_ rfl (.slice xa55 A.writes.length xc56) (ex_load rfl (load1 (nagg_44 _) (St.cell S121 (i := 3) rfl rfl))) ?_
 simp only [pS, pN, pA, pC, pZ]
 refine do_ rfl (.int .i64 ((A.writes.length : Nat) : Int)) (ex_len Try.underlying44 rfl) ?_
 simp only [pS, pN, pA, pC, pZ]
 refine do_ rfl (.bool false) (ex_eql (m := ((A.writes.length : Nat) : Int)) (n := (0 : Int)) (b := false) rfl rfl (beq_eq_false_iff_ne.2 (by omega))) ?_
 simp only [pS, pN, pA, pC, pZ]
 refine do_ rfl (.bool false) (ex_pick (b := false) rfl) ?_
 simp only [pS, pN, pA, pC, pZ]
 refine wl_nil (hK123 _ _ ?_)
 refine wp_cond_false rfl ?_
 refine wp_skip ?_
 refine hK122 _ _ ?_
 refine wp_seq_k (fun K124 hK124 => ?_)
 refine wp_seq_k (fun K125 hK125 => region_wl ?_)
 refine do_ rfl (.int .i64 0) (ex_assign _) ?_
 simp only [pS, pN, pA, pC, pZ]
 refine wl_nil (hK125 _ _ ?_)
 refine wp_block ?_
 refine wp_loop_g (fun mm aa w127 => ∃ (k : Nat) (u126 : Nat → Value), mm = A.writes.length - k ∧ u126 = slots aa ∧ aa = ⟨#[(.slice a0 l0.length c0), (.agg #[(.slice a10 p1.name.length c10), (.slice a11 p1.key.length c11), (.slice a12 p1.value.length c12), (.bool p1.gone)]), (.slice a2 l2.length c2), undef, (.pointer (some ⟨n2, 0, none⟩)), undef, (u126 6), (.pointer (some ⟨n19, 0, none⟩)), (.bool true), (.pointer (some ⟨n40, 0, none⟩)), (.pointer (some ⟨n59, 0, none⟩)), (.int .i64 0), (.pointer (some ⟨n65, 0, none⟩)), (.pointer (some ⟨n98, 0, none⟩)), (.int .i64 0), (.pointer (some ⟨n117, 0, none⟩)), (.int .i64 0), (.int .i64 ((k : Nat) : Int)), (.tuple #[(.agg #[(.int .i64 (txO l0 []).start), (.slice xa13 (txO l0 []).reads.length xc14), (.slice xa15 (txO l0 []).writes.length xc16)]), (.bool true)]), (.slice a0 l0.length c0), (.tuple #[(.agg #[(.int .i64 (txO l0 []).start), (.slice xa13 (txO l0 []).reads.length xc14), (.slice xa15 (txO l0 []).writes.length xc16)]), (.bool true)]), (.agg #[(.int .i64 (txO l0 []).start), (.slice xa13 (txO l0 []).reads.length xc14), (.slice xa15 (txO l0 []).writes.length xc16)]), (.bool true), (.agg #[(.slice a10 p1.name.length c10), (.slice a11 p1.key.length c11), (.slice a12 p1.value.length c12), (.bool p1.gone)]), (.agg #[(.slice xa31 (writeP p1).name.length xc32), (.slice xa33 (writeP p1).key.length xc34), (.bool (writeP p1).gone), (.slice xa35 (writeP p1).value.length xc36)]), (.tuple #[(.agg #[(.int .i64 A.start), (.slice xa53 A.reads.length xc54), (.slice xa55 A.writes.length xc56)]), (.int .i64 0)]), (.agg #[(.int .i64 (txO l0 []).start), (.slice xa13 (txO l0 []).reads.length xc14), (.slice xa15 (txO l0 []).writes.length xc16)]), (.agg #[(.slice xa31 (writeP p1).name.length xc32), (.slice xa33 (writeP p1).key.length xc34), (.bool (writeP p1).gone), (.slice xa35 (writeP p1).value.length xc36)]), (.tuple #[(.agg #[(.int .i64 A.start), (.slice xa53 A.reads.length xc54), (.slice xa55 A.writes.length xc56)]), (.int .i64 0)]), (.agg #[(.int .i64 A.start), (.slice xa53 A.reads.length xc54), (.slice xa55 A.writes.length xc56)]), (.int .i64 0), (.agg #[(.slice xa31 (writeP p1).name.length xc32), (.slice xa33 (writeP p1).key.length xc34), (.bool (writeP p1).gone), (.slice xa35 (writeP p1).value.length xc36)]), (.pointer (some ⟨n65, 2, none⟩)), (.slice a2 l2.length c2), (.slice xa80 (l2.take 32).length xc81), (.pointer (some ⟨n65, 3, none⟩)), (.tuple #[(.agg #[(.int .i64 B.start), (.slice xa92 B.reads.length xc93), (.slice xa94 B.writes.length xc95)]), (.int .i64 0)]), (.agg #[(.int .i64 A.start), (.slice xa53 A.reads.length xc54), (.slice xa55 A.writes.length xc56)]), (.agg #[(.slice xa31 (writeP p1).name.length xc32), (.slice xa33 (writeP p1).key.length xc34), (.bool false), (.slice xa80 (l2.take 32).length xc81)]), (.tuple #[(.agg #[(.int .i64 B.start), (.slice xa92 B.reads.length xc93), (.slice xa94 B.writes.length xc95)]), (.int .i64 0)]), (.agg #[(.int .i64 B.start), (.slice xa92 B.reads.length xc93), (.slice xa94 B.writes.length xc95)]), (.int .i64 0), (.tuple #[(.agg #[(.int .i64 A.start), (.slice xa111 A.reads.length xc112), (.slice xa113 A.writes.length xc114)]), (.int .i64 0)]), (.agg #[(.int .i64 B.start), (.slice xa92 B.reads.length xc93), (.slice xa94 B.writes.length xc95)]), (.agg #[(.slice xa31 (writeP p1).name.length xc32), (.slice xa33 (writeP p1).key.length xc34), (.bool (writeP p1).gone), (.slice xa35 (writeP p1).value.length xc36)]), (.tuple #[(.agg #[(.int .i64 A.start), (.slice xa111 A.reads.length xc112), (.slice xa113 A.writes.length xc114)]), (.int .i64 0)]), (.agg #[(.int .i64 A.start), (.slice xa111 A.reads.length xc112), (.slice xa113 A.writes.length xc114)]), (.int .i64 0), (.bool true), (.bool false), (.bool false), (.int .i64 0), (.bool false), (.bool false), (.bool false), (.int .i64 0), (.bool false), (.bool false), (.bool false), (.int .i64 0), (.bool false), (.bool false), (.bool false), (.pointer (some ⟨n59, 2, none⟩)), (.slice xa55 A.writes.length xc56), (.int .i64 ((A.writes.length : Nat) : Int)), (.pointer (some ⟨n98, 2, none⟩)), (.slice xa94 B.writes.length xc95), (.int .i64 ((B.writes.length : Nat) : Int)), (.bool false), (.bool false), (.bool false), (.pointer (some ⟨n59, 2, none⟩)), (.slice xa55 A.writes.length xc56), (.int .i64 ((A.writes.length : Nat) : Int)), (.pointer (some ⟨n117, 2, none⟩)), (.slice xa113 A.writes.length xc114), (.int .i64 ((A.writes.length : Nat) : Int)), (.bool false), (.bool false), (.bool false), (.pointer (some ⟨n59, 2, none⟩)), (.slice xa55 A.writes.length xc56), (.int .i64 ((A.writes.length : Nat) : Int)), (.bool false), (.bool false), (u126 86), (u126 87), (u126 88), (u126 89), (u126 90), (u126 91), (u126 92), (u126 93), (u126 94), (u126 95), (u126 96), (u126 97), (u126 98), (u126 99), (u126 100), (u126 101), (u126 102), (u126 103), (u126 104)], []⟩ ∧ St W (whole W) w127 F106 [⟨n117, [(.int .i64 A.start), (.slice xa111 A.reads.length xc112), (.slice xa113 A.writes.length xc114)], 75⟩, ⟨n98, [(.int .i64 B.start), (.slice xa92 B.reads.length xc93), (.slice xa94 B.writes.length xc95)], 75⟩, ⟨n65, [(.slice xa31 (writeP p1).name.length xc32), (.slice xa33 (writeP p1).key.length xc34), (.bool false), (.slice xa80 (l2.take 32).length xc81)], 27⟩, ⟨n59, [(.int .i64 A.start), (.slice xa53 A.reads.length xc54), (.slice xa55 A.writes.length xc56)], 75⟩, ⟨n40, [(.slice xa31 (writeP p1).name.length xc32), (.slice xa33 (writeP p1).key.length xc34), (.bool (writeP p1).gone), (.slice xa35 (writeP p1).value.length xc36)], 27⟩, ⟨n19, [(.int .i64 (txO l0 []).start), (.slice xa13 (txO l0 []).reads.length xc14), (.slice xa15 (txO l0 []).writes.length xc16)], 75⟩, ⟨n2, [(.slice a10 p1.name.length c10), (.slice a11 p1.key.length c11), (.slice a12 p1.value.length c12), (.bool p1.gone)], 30⟩] [] ∧ (k ≤ A.writes.length)) _ ⟨0, _, rfl, rfl, rfl, S121, (by omega)⟩ ?_
 rintro m128 a129 w130 ⟨k, u126, rfl, -, rfl, S131, hk⟩ K133 hK133
 refine wp_seq_k (fun K134 hK134 => ?_)
 refine wp_seq_k (fun K135 hK135 => region_wl ?_)
 refine do_ rfl (.int .i64 ((k : Nat) : Int)) (ex_move _) ?_
 simp only [pS, pN, pA, pC, pZ]
 refine do_ rfl (.pointer (some ⟨n59, 2, none⟩)) (ex_field (q := ⟨n59, 2, none⟩) rfl (fa_75_2 _ _)) ?_
 simp only [pS, pN, pA, pC, pZ]
 refine do_ rfl (.slice xa55 A.writes.length xc56) (ex_load rfl (load1 (nagg_44 _) (St.cell S131 (i := 3) rfl rfl))) ?_
 simp only [pS, pN, pA, pC, pZ]
 refine do_ rfl (.int .i64 ((A.writes.length : Nat) : Int)) (ex_len Try.underlying44 rfl) ?_
 simp only [pS, pN, pA, pC, pZ]
 by_cases hc90 : k < A.writes.length
 ·refine do_ rfl (.bool true) (ex_lss (m := ((k : Nat) : Int)) (n := ((A.writes.length : Nat) : Int)) (b := true) rfl rfl (decide_eq_true (by omega))) ?_
  simp only [pS, pN, pA, pC, pZ]
  refine wl_nil (hK135 _ _ ?_)
  refine wp_cond_true rfl ?_
  refine wp_skip ?_
  refine hK134 _ _ ?_
  refine wp_seq_k (fun K136 hK136 => ?_)
  refine wp_block ?_
  refine wp_seq_k (fun K137 hK137 => ?_)
  obtain ⟨p, hp⟩ : ∃ p, A.writes[k]? = some p := ⟨A.writes[k], List.getElem?_eq_getElem hc90⟩
  obtain ⟨b138, o139, ha140, xa142, xc143, xa146, xc147, xa151, xc152, c141, c145, c149, c150, r144, r148, r153⟩ := Wrs.get (r58.mono ((le77.trans le88).trans le107)) hp
  obtain ⟨b154, o155, ha156, xa158, xc159, xa162, xc163, xa167, xc168, c157, c161, c165, c166, r160, r164, r169⟩ := Wrs.get r116 hp
  refine region_gw F106 10 [] (by kernel_rfl) (by kernel_rfl) ?_
  simp only [List.take_succ_cons, List.take_zero]
  refine gw_pure rfl rfl (.pointer (some ⟨n59, 2, none⟩)) (fun w170 hCw170 => pureAt_of (ex_field (q := ⟨n59, 2, none⟩) rfl (fa_75_2 _ _))) ?_
  simp only [pS, pN, pA, pC, pZ]
  refine gw_pure rfl rfl (.slice xa55 A.writes.length xc56) (fun w170 hCw170 => pureAt_of (ex_load rfl (load1 (nagg_44 _) (St.cell (St.tells S131 hCw170) (i := 3) rfl rfl)))) ?_
  simp only [pS, pN, pA, pC, pZ]
  refine gw_pure rfl rfl (.int .i64 ((k : Nat) : Int)) (fun w170 hCw170 => pureAt_of (ex_move _)) ?_
  simp only [pS, pN, pA, pC, pZ]
  refine gw_pure rfl rfl (.pointer (some ⟨b138, o139 + k * 4, none⟩)) (fun w170 hCw170 => pureAt_of (ex_at (i := k) (sz := 4) Try.underlying44 (sizeof_27 _) rfl ha140 rfl (by omega) rfl)) ?_
  simp only [pS, pN, pA, pC, pZ]
  refine gw_pure rfl rfl (.agg #[(.slice xa142 p.name.length xc143), (.slice xa146 p.key.length xc147), (.bool p.gone), (.slice xa151 p.value.length xc152)]) (fun w170 hCw170 => pureAt_of (ex_load rfl (loadN (cs := [(.slice xa142 p.name.length xc143), (.slice xa146 p.key.length xc147), (.bool p.gone), (.slice xa151 p.value.length xc152)]) Try.underlying27 rfl (size_27) (range4 (St.fz (St.tells S131 hCw170) c141) (St.fz (St.tells S131 hCw170) c145) (St.fz (St.tells S131 hCw170) c149) (St.fz (St.tells S131 hCw170) c150))))) ?_
  simp only [pS, pN, pA, pC, pZ]
  refine gw_pure rfl rfl (.pointer (some ⟨n117, 2, none⟩)) (fun w170 hCw170 => pureAt_of (ex_field (q := ⟨n117, 2, none⟩) rfl (fa_75_2 _ _))) ?_
  simp only [pS, pN, pA, pC, pZ]
  refine gw_pure rfl rfl (.slice xa113 A.writes.length xc114) (fun w170 hCw170 => pureAt_of (ex_load rfl (load1 (nagg_44 _) (St.cell (St.tells S131 hCw170) (i := 0) rfl rfl)))) ?_
  simp only [pS, pN, pA, pC, pZ]
  refine gw_pure rfl rfl (.int .i64 ((k : Nat) : Int)) (fun w170 hCw170 => pureAt_of (ex_move _)) ?_
  simp only [pS, pN, pA, pC, pZ]
  refine gw_pure rfl rfl (.pointer (some ⟨b154, o155 + k * 4, none⟩)) (fun w170 hCw170 => pureAt_of (ex_at (i := k) (sz := 4) Try.underlying44 (sizeof_27 _) rfl ha156 rfl (by omega) rfl)) ?_
  simp only [pS, pN, pA, pC, pZ]
  refine gw_pure rfl rfl (.agg #[(.slice xa158 p.name.length xc159), (.slice xa162 p.key.length xc163), (.bool p.gone), (.slice xa167 p.value.length xc168)]) (fun w170 hCw170 => pureAt_of (ex_load rfl (loadN (cs := [(.slice xa158 p.name.length xc159), (.slice xa162 p.key.length xc163), (.bool p.gone), (.slice xa167 p.value.length xc168)]) Try.underlying27 rfl (size_27) (range4 (St.fz (St.tells S131 hCw170) c157) (St.fz (St.tells S131 hCw170) c161) (St.fz (St.tells S131 hCw170) c165) (St.fz (St.tells S131 hCw170) c166))))) ?_
  simp only [pS, pN, pA, pC, pZ]
  refine gw_nil ?_
  intro w171 hC173 hF174
  clear hF174
  have S172 := St.tells S131 hC173
  simp only [List.drop_succ_cons, List.drop_zero]
  refine stTells (v := (.bool true)) S172 rfl (ex_fn (vs := #[(.agg #[(.slice xa142 p.name.length xc143), (.slice xa146 p.key.length xc147), (.bool p.gone), (.slice xa151 p.value.length xc152)]), (.agg #[(.slice xa158 p.name.length xc159), (.slice xa162 p.key.length xc163), (.bool p.gone), (.slice xa167 p.value.length xc168)])]) (map2 rfl rfl) rfl (ent_44 _ _)) (sameWrite_is _ _ _ _ p (S172).sat ⟨_, _, _, _, _, _, rfl, r144, r148, r153⟩ ⟨_, _, _, _, _, _, rfl, r160, r164, r169⟩) (fun w175 S176 => ?_)
  simp only [pS, pN, pA, pC, pZ]
  refine do_ rfl (.bool false) (ex_not (b := true) rfl rfl) ?_
  simp only [pS, pN, pA, pC, pZ]
  refine wl_nil (hK137 _ _ ?_)
  refine wp_cond_false rfl ?_
  refine wp_skip ?_
  refine hK136 _ _ ?_
  refine region_wl ?_
  refine do_ rfl (.int .i64 ((k : Nat) : Int)) (ex_move _) ?_
  simp only [pS, pN, pA, pC, pZ]
  refine do_ rfl (.int .i64 (((k + 1) : Nat) : Int)) (ex_add (m := ((k : Nat) : Int)) (n := (1 : Int)) (r := (((k + 1) : Nat) : Int)) rfl rfl (by omega) (by omega) (by omega)) ?_
  simp only [pS, pN, pA, pC, pZ]
  refine do_ rfl (.int .i64 (((k + 1) : Nat) : Int)) (ex_assign _) ?_
  simp only [pS, pN, pA, pC, pZ]
  refine wl_nil ?_
  exact hK133 _ _ _ (by omega) ⟨(k + 1), _, rfl, rfl, rfl, S176, (by omega)⟩
 ·refine do_ rfl (.bool false) (ex_lss (m := ((k : Nat) : Int)) (n := ((A.writes.length : Nat) : Int)) (b := false) rfl rfl (decide_eq_false (by omega))) ?_
  simp only [pS, pN, pA, pC, pZ]
  refine wl_nil (hK135 _ _ ?_)
  refine wp_cond_false rfl ?_
  refine wp_exit ?_
  refine hK124 _ _ ?_
  refine wp_seq_k (fun K177 hK177 => region_wl ?_)
  refine do_ rfl (.bool true) (ex_assign _) ?_
  simp only [pS, pN, pA, pC, pZ]
  refine wl_nil (hK177 _ _ ?_)
  refine wp_ret ?_
  (try simp only [Exit.then, Exit.inBlock, ↓reduceIte, Nat.reduceEqDiff])
  refine bodyPost_ret (v := (.bool true)) ?_ rfl ?_
  ·exact res_t rfl rfl
  ·exact ⟨rfl, S131.gr.below⟩
end Go.Proofs.Ytcpngkkconalhaa
