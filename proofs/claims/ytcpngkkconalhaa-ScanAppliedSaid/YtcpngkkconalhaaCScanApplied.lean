/- The walk of ScanApplied -/
import Derived.Test.YtcpngkkconalhaaZ13
import Derived.Test.YtcpngkkconalhaaZ8
import Derived.Test.YtcpngkkconalhaaZ6
namespace Go.Proofs.Ytcpngkkconalhaa
open Go.RowKit
set_option maxRecDepth 100000
set_option linter.unusedVariables false
set_option linter.unusedSimpArgs false
set_option maxHeartbeats 8000000 in
theorem scanApplied_walk (W : World) (v0 : Value) (l0 : List Pl) (z0 : Pls (whole W) v0 l0) (v1 : Value) (l1 : List Pl) (z1 : Pls (whole W) v1 l1) (p2 : Pl) (v20 : Value) (z20 : Bs (whole W) v20 p2.name) (v21 : Value) (z21 : Bs (whole W) v21 p2.key) (v22 : Value) (z22 : Bs (whole W) v22 p2.value) (v3 : Value) (l3 : By) (z3 : Bs (whole W) v3 l3) :
    Calls Try.prog 16 #[v0, v1, .agg #[v20, v21, v22, .bool p2.gone], v3] W (Tells W (.bool true)) := by
 obtain ⟨a0, c0, rfl, q0, q0'⟩ := Sl.shape z0
 obtain ⟨a1, c1, rfl, q1, q1'⟩ := Sl.shape z1
 obtain ⟨a20, c20, rfl, _⟩ := z20.shape
 obtain ⟨a21, c21, rfl, _⟩ := z21.shape
 obtain ⟨a22, c22, rfl, _⟩ := z22.shape
 obtain ⟨a3, c3, rfl, _⟩ := z3.shape
 have okf : ForestOk 20 (forestW (writesN l0 20)) := (forestW_ok (writesN_ok l0 20)).mono (by have := writesN_len l0 20; omega)
 have okf60 : ForestOk 60 (forestW (writesN l0 20)) := ForestOk.mono okf (by omega)
 have S := St.start (Sat.whole W)
 go_enter Try.func16, Try.ntmps16
 refine wp_seq_k (fun K1 hK1 => region_wl ?_)
 refine stNew S (v := fun n => .pointer (some ⟨n, 0, none⟩)) rfl (ex_box (v := (.agg #[(.slice a20 p2.name.length c20), (.slice a21 p2.key.length c21), (.slice a22 p2.value.length c22), (.bool p2.gone)])) rfl) (fun n2 w3 S4 => ?_)
 simp only [pS, pN, pA, pC, pZ]
 have S4 : St W (whole W) w3 (whole W) [⟨n2, [(.slice a20 p2.name.length c20), (.slice a21 p2.key.length c21), (.slice a22 p2.value.length c22), (.bool p2.gone)], 30⟩] [] := S4
 refine do_ rfl (.bool false) (ex_assign _) ?_
 simp only [pS, pN, pA, pC, pZ]
 refine wl_nil (hK1 _ _ ?_)
 refine wp_seq_k (fun K5 hK5 => region_wl ?_)
 refine do_ rfl (.slice a0 l0.length c0) (ex_move _) ?_
 simp only [pS, pN, pA, pC, pZ]
 refine stGives S4 rfl (ex_fn (vs := #[(.slice a0 l0.length c0), (.int .i64 20)]) (map2 rfl rfl) rfl (ent_27 _ _)) (forest_spec _ _ _ l0 20 (S4).sat z0 (by omega)) ?_
 intro v11 w6 F8 S7 le9 R10
 obtain ⟨a12, c13, rfl, h14, h15⟩ := Sl.shape R10
 unfold maxLen at h15
 have R10 : Tns _ (.slice a12 (forestW (writesN l0 20)).length c13) (forestW (writesN l0 20)) := R10
 simp only [pS, pN, pA, pC, pZ]
 refine do_ rfl (.slice a12 (forestW (writesN l0 20)).length c13) (ex_assign _) ?_
 simp only [pS, pN, pA, pC, pZ]
 refine wl_nil (hK5 _ _ ?_)
 refine wp_seq_k (fun K16 hK16 => region_wl ?_)
 refine do_ rfl (.slice a1 l1.length c1) (ex_move _) ?_
 simp only [pS, pN, pA, pC, pZ]
 refine stGives S7 rfl (ex_fn (vs := #[(.slice a1 l1.length c1), (.slice none 0 0)]) (map2 rfl rfl) rfl (ent_41 _ _)) (txnOf_spec _ _ _ _ l1 [] (S7).sat (z1.mono le9) (Sl.nil _ _ _)) ?_
 intro v22 w17 F19 S18 le20 R21
 obtain ⟨_, rfl, R23⟩ := R21
 obtain ⟨xa24, xc25, xa26, xc27, rfl, r28, r29⟩ := R23
 simp only [pS, pN, pA, pC, pZ]
 refine do_ rfl (.tuple #[(.agg #[(.int .i64 (txO l1 []).start), (.slice xa24 (txO l1 []).reads.length xc25), (.slice xa26 (txO l1 []).writes.length xc27)]), (.bool true)]) (ex_move _) ?_
 simp only [pS, pN, pA, pC, pZ]
 refine do_ rfl (.agg #[(.int .i64 (txO l1 []).start), (.slice xa24 (txO l1 []).reads.length xc25), (.slice xa26 (txO l1 []).writes.length xc27)]) (ex_extract rfl rfl) ?_
 simp only [pS, pN, pA, pC, pZ]
 refine do_ rfl (.bool true) (ex_extract rfl rfl) ?_
 simp only [pS, pN, pA, pC, pZ]
 refine stNew S18 (v := fun n => .pointer (some ⟨n, 0, none⟩)) rfl (ex_alloc (zero_75 _)) (fun n30 w31 S32 => ?_)
 simp only [pS, pN, pA, pC, pZ]
 have S32 : St W (whole W) w31 F19 [⟨n30, [(.int .i64 0), (.slice none 0 0), (.slice none 0 0)], 75⟩, ⟨n2, [(.slice a20 p2.name.length c20), (.slice a21 p2.key.length c21), (.slice a22 p2.value.length c22), (.bool p2.gone)], 30⟩] [] := S32
 refine stStore (i := 0) (v := (.agg #[(.int .i64 (txO l1 []).start), (.slice xa24 (txO l1 []).reads.length xc25), (.slice xa26 (txO l1 []).writes.length xc27)])) S32 rfl rfl rfl rfl (size_75) (allc3 rfl rfl rfl) (Nat.le_of_ble_eq_true rfl) (fun w33 S34 => ?_)
 simp only [pS, pN, pA, pC, pZ]
 have S34 : St W (whole W) w33 F19 [⟨n30, [(.int .i64 (txO l1 []).start), (.slice xa24 (txO l1 []).reads.length xc25), (.slice xa26 (txO l1 []).writes.length xc27)], 75⟩, ⟨n2, [(.slice a20 p2.name.length c20), (.slice a21 p2.key.length c21), (.slice a22 p2.value.length c22), (.bool p2.gone)], 30⟩] [] := S34
 refine do_ rfl (.bool true) (ex_assign _) ?_
 simp only [pS, pN, pA, pC, pZ]
 refine wl_nil (hK16 _ _ ?_)
 refine wp_seq_k (fun K35 hK35 => ?_)
 have hT := txO_ok l1 []
 have hws := hT.1.writes
 have hae := applyE_ok (l := (forestW (writesN l0 20))) (ws := (txO l1 []).writes) hws (by omega)
 cases he : applyF (forestW (writesN l0 20)) (txO l1 []).writes with
 | none =>
  rw [he] at hae
  refine region_wl ?_
  refine do_ rfl (.slice a12 (forestW (writesN l0 20)).length c13) (ex_move _) ?_
  simp only [pS, pN, pA, pC, pZ]
  refine do_ rfl (.pointer (some ⟨n30, 2, none⟩)) (ex_field (q := ⟨n30, 2, none⟩) rfl (fa_75_2 _ _)) ?_
  simp only [pS, pN, pA, pC, pZ]
  refine do_ rfl (.slice xa26 (txO l1 []).writes.length xc27) (ex_load rfl (load1 (nagg_44 _) (St.cell S34 (i := 0) rfl rfl))) ?_
  simp only [pS, pN, pA, pC, pZ]
  refine stGives S34 rfl (ex_fn (vs := #[(.slice a12 (forestW (writesN l0 20)).length c13), (.slice xa26 (txO l1 []).writes.length xc27)]) (map2 rfl rfl) rfl (ent_34 _ _)) (apply_is (S34).sat (R10.mono le20) r29 okf60 hws hae) ?_
  intro v41 w36 F38 S37 le39 R40
  obtain ⟨_, rfl, r44⟩ := R40
  obtain ⟨a42, c43, rfl, h45, h46⟩ := Sl.shape r44
  unfold maxLen at h46
  simp only [pS, pN, pA, pC, pZ]
  refine do_ rfl (.tuple #[(.slice a42 ([] : Forest).length c43), (.int .i64 11)]) (ex_move _) ?_
  simp only [pS, pN, pA, pC, pZ]
  refine do_ rfl (.slice a42 ([] : Forest).length c43) (ex_extract rfl rfl) ?_
  simp only [pS, pN, pA, pC, pZ]
  refine do_ rfl (.int .i64 11) (ex_extract rfl rfl) ?_
  simp only [pS, pN, pA, pC, pZ]
  refine do_ rfl (.slice a42 ([] : Forest).length c43) (ex_assign _) ?_
  simp only [pS, pN, pA, pC, pZ]
  refine do_ rfl (.int .i64 11) (ex_assign _) ?_
  simp only [pS, pN, pA, pC, pZ]
  refine wl_nil (hK35 _ _ ?_)
  refine wp_seq_k (fun K47 hK47 => ?_)
  refine wp_seq_k (fun K48 hK48 => region_wl ?_)
  refine do_ rfl (.bool true) (ex_move _) ?_
  simp only [pS, pN, pA, pC, pZ]
  refine do_ rfl (.bool false) (ex_not (b := true) rfl rfl) ?_
  simp only [pS, pN, pA, pC, pZ]
  refine do_ rfl (.bool false) (ex_move _) ?_
  simp only [pS, pN, pA, pC, pZ]
  refine do_ rfl (.int .i64 11) (ex_move _) ?_
  simp only [pS, pN, pA, pC, pZ]
  refine do_ rfl (.bool true) (ex_neq (b := true) rfl rfl (by decide)) ?_
  simp only [pS, pN, pA, pC, pZ]
  refine do_ rfl (.bool true) (ex_pick (b := false) rfl) ?_
  simp only [pS, pN, pA, pC, pZ]
  refine wl_nil (hK48 _ _ ?_)
  refine wp_cond_true rfl ?_
  refine wp_seq_k (fun K49 hK49 => region_wl ?_)
  refine do_ rfl (.bool true) (ex_move _) ?_
  simp only [pS, pN, pA, pC, pZ]
  refine do_ rfl (.bool true) (ex_move _) ?_
  simp only [pS, pN, pA, pC, pZ]
  refine do_ rfl (.int .i64 11) (ex_move _) ?_
  simp only [pS, pN, pA, pC, pZ]
  refine do_ rfl (.bool true) (ex_eql (b := true) rfl rfl (by decide)) ?_
  simp only [pS, pN, pA, pC, pZ]
  refine do_ rfl (.bool true) (ex_pick (b := true) rfl) ?_
  simp only [pS, pN, pA, pC, pZ]
  refine do_ rfl (.bool true) (ex_assign _) ?_
  simp only [pS, pN, pA, pC, pZ]
  refine wl_nil (hK49 _ _ ?_)
  refine wp_ret ?_
  (try simp only [Exit.then, Exit.inBlock, ↓reduceIte, Nat.reduceEqDiff])
  refine bodyPost_ret (v := (.bool true)) ?_ rfl ?_
  ·exact res_t rfl rfl
  ·exact ⟨rfl, S37.gr.below⟩
 | some g =>
  rw [he] at hae
  have okg := applyF_ok60 okf60 hws he
  refine region_wl ?_
  refine do_ rfl (.slice a12 (forestW (writesN l0 20)).length c13) (ex_move _) ?_
  simp only [pS, pN, pA, pC, pZ]
  refine do_ rfl (.pointer (some ⟨n30, 2, none⟩)) (ex_field (q := ⟨n30, 2, none⟩) rfl (fa_75_2 _ _)) ?_
  simp only [pS, pN, pA, pC, pZ]
  refine do_ rfl (.slice xa26 (txO l1 []).writes.length xc27) (ex_load rfl (load1 (nagg_44 _) (St.cell S34 (i := 0) rfl rfl))) ?_
  simp only [pS, pN, pA, pC, pZ]
  refine stGives S34 rfl (ex_fn (vs := #[(.slice a12 (forestW (writesN l0 20)).length c13), (.slice xa26 (txO l1 []).writes.length xc27)]) (map2 rfl rfl) rfl (ent_34 _ _)) (apply_is (S34).sat (R10.mono le20) r29 okf60 hws hae) ?_
  intro v55 w50 F52 S51 le53 R54
  obtain ⟨_, rfl, r58⟩ := R54
  obtain ⟨a56, c57, rfl, h59, h60⟩ := Sl.shape r58
  unfold maxLen at h60
  have h59 : g.length ≤ c57 := h59
  have r58 : Tns _ (.slice a56 g.length c57) g := r58
  simp only [pS, pN, pA, pC, pZ]
  refine do_ rfl (.tuple #[(.slice a56 g.length c57), (.int .i64 0)]) (ex_move _) ?_
  simp only [pS, pN, pA, pC, pZ]
  refine do_ rfl (.slice a56 g.length c57) (ex_extract rfl rfl) ?_
  simp only [pS, pN, pA, pC, pZ]
  refine do_ rfl (.int .i64 0) (ex_extract rfl rfl) ?_
  simp only [pS, pN, pA, pC, pZ]
  refine do_ rfl (.slice a56 g.length c57) (ex_assign _) ?_
  simp only [pS, pN, pA, pC, pZ]
  refine do_ rfl (.int .i64 0) (ex_assign _) ?_
  simp only [pS, pN, pA, pC, pZ]
  refine wl_nil (hK35 _ _ ?_)
  refine wp_seq_k (fun K61 hK61 => ?_)
  refine wp_seq_k (fun K62 hK62 => region_wl ?_)
  refine do_ rfl (.bool true) (ex_move _) ?_
  simp only [pS, pN, pA, pC, pZ]
  refine do_ rfl (.bool false) (ex_not (b := true) rfl rfl) ?_
  simp only [pS, pN, pA, pC, pZ]
  refine do_ rfl (.bool false) (ex_move _) ?_
  simp only [pS, pN, pA, pC, pZ]
  refine do_ rfl (.int .i64 0) (ex_move _) ?_
  simp only [pS, pN, pA, pC, pZ]
  refine do_ rfl (.bool false) (ex_neq (b := false) rfl rfl (by decide)) ?_
  simp only [pS, pN, pA, pC, pZ]
  refine do_ rfl (.bool false) (ex_pick (b := false) rfl) ?_
  simp only [pS, pN, pA, pC, pZ]
  refine wl_nil (hK62 _ _ ?_)
  refine wp_cond_false rfl ?_
  refine wp_skip ?_
  refine hK61 _ _ ?_
  refine wp_seq_k (fun K63 hK63 => region_wl ?_)
  refine do_ rfl (.agg #[(.slice a20 p2.name.length c20), (.slice a21 p2.key.length c21), (.slice a22 p2.value.length c22), (.bool p2.gone)]) (ex_load rfl (loadN (cs := [(.slice a20 p2.name.length c20), (.slice a21 p2.key.length c21), (.slice a22 p2.value.length c22), (.bool p2.gone)]) Try.underlying30 rfl (size_30) (St.range S51 (i := 1) rfl 0 [(.slice a20 p2.name.length c20), (.slice a21 p2.key.length c21), (.slice a22 p2.value.length c22), (.bool p2.gone)] (sub_range 0 rfl)))) ?_
  simp only [pS, pN, pA, pC, pZ]
  refine stGives S51 rfl (ex_fn (vs := #[(.agg #[(.slice a20 p2.name.length c20), (.slice a21 p2.key.length c21), (.slice a22 p2.value.length c22), (.bool p2.gone)])]) (map1 rfl) rfl (ent_19 _ _)) (keepWrite_spec _ _ _ p2 (S51).sat ⟨_, _, _, _, _, _, rfl, (z20.mono ((le9.trans le20).trans le53)), (z21.mono ((le9.trans le20).trans le53)), (z22.mono ((le9.trans le20).trans le53))⟩) ?_
  intro v69 w64 F66 S65 le67 R68
  obtain ⟨xa70, xc71, xa72, xc73, xa74, xc75, rfl, r76, r77, r78⟩ := R68
  simp only [pS, pN, pA, pC, pZ]
  refine stNew S65 (v := fun n => .pointer (some ⟨n, 0, none⟩)) rfl (ex_alloc (zero_27 _)) (fun n79 w80 S81 => ?_)
  simp only [pS, pN, pA, pC, pZ]
  have S81 : St W (whole W) w80 F66 [⟨n79, [(.slice none 0 0), (.slice none 0 0), (.bool false), (.slice none 0 0)], 27⟩, ⟨n30, [(.int .i64 (txO l1 []).start), (.slice xa24 (txO l1 []).reads.length xc25), (.slice xa26 (txO l1 []).writes.length xc27)], 75⟩, ⟨n2, [(.slice a20 p2.name.length c20), (.slice a21 p2.key.length c21), (.slice a22 p2.value.length c22), (.bool p2.gone)], 30⟩] [] := S81
  refine stStore (i := 0) (v := (.agg #[(.slice xa70 (writeP p2).name.length xc71), (.slice xa72 (writeP p2).key.length xc73), (.bool (writeP p2).gone), (.slice xa74 (writeP p2).value.length xc75)])) S81 rfl rfl rfl rfl (size_27) (allc4 rfl rfl rfl rfl) (Nat.le_of_ble_eq_true rfl) (fun w82 S83 => ?_)
  simp only [pS, pN, pA, pC, pZ]
  have S83 : St W (whole W) w82 F66 [⟨n79, [(.slice xa70 (writeP p2).name.length xc71), (.slice xa72 (writeP p2).key.length xc73), (.bool (writeP p2).gone), (.slice xa74 (writeP p2).value.length xc75)], 27⟩, ⟨n30, [(.int .i64 (txO l1 []).start), (.slice xa24 (txO l1 []).reads.length xc25), (.slice xa26 (txO l1 []).writes.length xc27)], 75⟩, ⟨n2, [(.slice a20 p2.name.length c20), (.slice a21 p2.key.length c21), (.slice a22 p2.value.length c22), (.bool p2.gone)], 30⟩] [] := S83
  refine wl_nil (hK63 _ _ ?_)
  refine wp_seq_k (fun K84 hK84 => region_wl ?_)
  refine do_ rfl (.slice a3 l3.length c3) (ex_move _) ?_
  simp only [pS, pN, pA, pC, pZ]
  refine stGives S83 rfl (ex_fn (vs := #[(.slice a3 l3.length c3)]) (map1 rfl) rfl (ent_28 _ _)) (key_spec _ _ _ l3 (S83).sat (z3.mono (((le9.trans le20).trans le53).trans le67))) ?_
  intro v90 w85 F87 S86 le88 R89
  obtain ⟨xa91, xc92, rfl, _⟩ := R89.shape
  simp only [pS, pN, pA, pC, pZ]
  refine do_ rfl (.slice xa91 (keyL l3).length xc92) (ex_assign _) ?_
  simp only [pS, pN, pA, pC, pZ]
  refine wl_nil (hK84 _ _ ?_)
  refine wp_seq_k (fun K93 hK93 => region_wl ?_)
  refine do_ rfl (.slice a12 (forestW (writesN l0 20)).length c13) (ex_move _) ?_
  simp only [pS, pN, pA, pC, pZ]
  refine do_ rfl (.agg #[(.int .i64 (txO l1 []).start), (.slice xa24 (txO l1 []).reads.length xc25), (.slice xa26 (txO l1 []).writes.length xc27)]) (ex_load rfl (loadN (cs := [(.int .i64 (txO l1 []).start), (.slice xa24 (txO l1 []).reads.length xc25), (.slice xa26 (txO l1 []).writes.length xc27)]) Try.underlying75 rfl (size_75) (St.range S86 (i := 1) rfl 0 [(.int .i64 (txO l1 []).start), (.slice xa24 (txO l1 []).reads.length xc25), (.slice xa26 (txO l1 []).writes.length xc27)] (sub_range 0 rfl)))) ?_
  simp only [pS, pN, pA, pC, pZ]
  refine do_ rfl (.pointer (some ⟨n79, 0, none⟩)) (ex_field (q := ⟨n79, 0, none⟩) rfl (fa_27_0 _ _)) ?_
  simp only [pS, pN, pA, pC, pZ]
  refine do_ rfl (.slice xa70 (writeP p2).name.length xc71) (ex_load rfl (load1 (nagg_25 _) (St.cell S86 (i := 0) rfl rfl))) ?_
  simp only [pS, pN, pA, pC, pZ]
  refine do_ rfl (.pointer (some ⟨n79, 1, none⟩)) (ex_field (q := ⟨n79, 1, none⟩) rfl (fa_27_1 _ _)) ?_
  simp only [pS, pN, pA, pC, pZ]
  refine do_ rfl (.slice xa72 (writeP p2).key.length xc73) (ex_load rfl (load1 (nagg_25 _) (St.cell S86 (i := 0) rfl rfl))) ?_
  simp only [pS, pN, pA, pC, pZ]
  refine do_ rfl (.slice xa91 (keyL l3).length xc92) (ex_move _) ?_
  simp only [pS, pN, pA, pC, pZ]
  refine stGives S86 rfl (ex_fn (vs := #[(.slice a12 (forestW (writesN l0 20)).length c13), (.agg #[(.int .i64 (txO l1 []).start), (.slice xa24 (txO l1 []).reads.length xc25), (.slice xa26 (txO l1 []).writes.length xc27)]), (.slice xa70 (writeP p2).name.length xc71), (.slice xa72 (writeP p2).key.length xc73), (.slice xa91 (keyL l3).length xc92)]) (map5 rfl rfl rfl rfl rfl) rfl (ent_49 _ _)) (scan_spec _ _ _ _ _ _ _ (forestW (writesN l0 20)) (txO l1 []) (writeP p2).name (writeP p2).key (keyL l3) (rangeT (treeF g (writeP p2).name) (writeP p2).key (keyL l3)) (S86).sat (R10.mono (((le20.trans le53).trans le67).trans le88)) ⟨_, _, _, _, rfl, (r28.mono ((le53.trans le67).trans le88)), (r29.mono ((le53.trans le67).trans le88))⟩ (r76.mono le88) (r77.mono le88) R89 okf60 hT.1 (writeP_ok p2).name ⟨(writeP_ok p2).key1, (writeP_ok p2).key2⟩ (keyL_len l3) (scan_write _ _ _ okf hws (by omega) he rfl)) ?_
  intro v99 w94 F96 S95 le97 R98
  obtain ⟨_, rfl, r102⟩ := R98
  obtain ⟨a100, c101, rfl, h103, h104⟩ := Sl.shape r102
  unfold maxLen at h104
  have h103 : (rangeT (treeF g (writeP p2).name) (writeP p2).key (keyL l3)).length ≤ c101 := h103
  have r102 : Prs _ (.slice a100 (rangeT (treeF g (writeP p2).name) (writeP p2).key (keyL l3)).length c101) (rangeT (treeF g (writeP p2).name) (writeP p2).key (keyL l3)) := r102
  simp only [pS, pN, pA, pC, pZ]
  refine do_ rfl (.tuple #[(.slice a100 (rangeT (treeF g (writeP p2).name) (writeP p2).key (keyL l3)).length c101), (.int .i64 0)]) (ex_move _) ?_
  simp only [pS, pN, pA, pC, pZ]
  refine do_ rfl (.slice a100 (rangeT (treeF g (writeP p2).name) (writeP p2).key (keyL l3)).length c101) (ex_extract rfl rfl) ?_
  simp only [pS, pN, pA, pC, pZ]
  refine do_ rfl (.int .i64 0) (ex_extract rfl rfl) ?_
  simp only [pS, pN, pA, pC, pZ]
  refine do_ rfl (.slice a100 (rangeT (treeF g (writeP p2).name) (writeP p2).key (keyL l3)).length c101) (ex_assign _) ?_
  simp only [pS, pN, pA, pC, pZ]
  refine do_ rfl (.int .i64 0) (ex_assign _) ?_
  simp only [pS, pN, pA, pC, pZ]
  refine wl_nil (hK93 _ _ ?_)
  refine wp_seq_k (fun K105 hK105 => region_wl ?_)
  refine do_ rfl (.slice a56 g.length c57) (ex_move _) ?_
  simp only [pS, pN, pA, pC, pZ]
  refine do_ rfl (.pointer (some ⟨n79, 0, none⟩)) (ex_field (q := ⟨n79, 0, none⟩) rfl (fa_27_0 _ _)) ?_
  simp only [pS, pN, pA, pC, pZ]
  refine do_ rfl (.slice xa70 (writeP p2).name.length xc71) (ex_load rfl (load1 (nagg_25 _) (St.cell S95 (i := 0) rfl rfl))) ?_
  simp only [pS, pN, pA, pC, pZ]
  refine do_ rfl (.pointer (some ⟨n79, 1, none⟩)) (ex_field (q := ⟨n79, 1, none⟩) rfl (fa_27_1 _ _)) ?_
  simp only [pS, pN, pA, pC, pZ]
  refine do_ rfl (.slice xa72 (writeP p2).key.length xc73) (ex_load rfl (load1 (nagg_25 _) (St.cell S95 (i := 0) rfl rfl))) ?_
  simp only [pS, pN, pA, pC, pZ]
  refine do_ rfl (.slice xa91 (keyL l3).length xc92) (ex_move _) ?_
  simp only [pS, pN, pA, pC, pZ]
  refine stGives S95 rfl (ex_fn (vs := #[(.slice a56 g.length c57), (.slice xa70 (writeP p2).name.length xc71), (.slice xa72 (writeP p2).key.length xc73), (.slice xa91 (keyL l3).length xc92)]) (map4 rfl rfl rfl rfl) rfl (ent_29 _ _)) (rangeF_spec _ _ _ _ _ _ g (writeP p2).name (writeP p2).key (keyL l3) (S95).sat (r58.mono ((le67.trans le88).trans le97)) (r76.mono (le88.trans le97)) (r77.mono (le88.trans le97)) (R89.mono le97) okg (writeP_ok p2).name ⟨(writeP_ok p2).key1, (writeP_ok p2).key2⟩ (keyL_len l3)) ?_
  intro v111 w106 F108 S107 le109 R110
  obtain ⟨_, rfl, r114⟩ := R110
  obtain ⟨a112, c113, rfl, h115, h116⟩ := Sl.shape r114
  unfold maxLen at h116
  have h115 : (rangeT (treeF g (writeP p2).name) (writeP p2).key (keyL l3)).length ≤ c113 := h115
  have r114 : Prs _ (.slice a112 (rangeT (treeF g (writeP p2).name) (writeP p2).key (keyL l3)).length c113) (rangeT (treeF g (writeP p2).name) (writeP p2).key (keyL l3)) := r114
  simp only [pS, pN, pA, pC, pZ]
  refine do_ rfl (.tuple #[(.slice a112 (rangeT (treeF g (writeP p2).name) (writeP p2).key (keyL l3)).length c113), (.int .i64 0)]) (ex_move _) ?_
  simp only [pS, pN, pA, pC, pZ]
  refine do_ rfl (.slice a112 (rangeT (treeF g (writeP p2).name) (writeP p2).key (keyL l3)).length c113) (ex_extract rfl rfl) ?_
  simp only [pS, pN, pA, pC, pZ]
  refine do_ rfl (.int .i64 0) (ex_extract rfl rfl) ?_
  simp only [pS, pN, pA, pC, pZ]
  refine do_ rfl (.slice a112 (rangeT (treeF g (writeP p2).name) (writeP p2).key (keyL l3)).length c113) (ex_assign _) ?_
  simp only [pS, pN, pA, pC, pZ]
  refine do_ rfl (.int .i64 0) (ex_assign _) ?_
  simp only [pS, pN, pA, pC, pZ]
  refine wl_nil (hK105 _ _ ?_)
  refine wp_seq_k (fun K117 hK117 => region_wl ?_)
  refine do_ rfl (.slice a12 (forestW (writesN l0 20)).length c13) (ex_move _) ?_
  simp only [pS, pN, pA, pC, pZ]
  refine do_ rfl (.agg #[(.int .i64 (txO l1 []).start), (.slice xa24 (txO l1 []).reads.length xc25), (.slice xa26 (txO l1 []).writes.length xc27)]) (ex_load rfl (loadN (cs := [(.int .i64 (txO l1 []).start), (.slice xa24 (txO l1 []).reads.length xc25), (.slice xa26 (txO l1 []).writes.length xc27)]) Try.underlying75 rfl (size_75) (St.range S107 (i := 1) rfl 0 [(.int .i64 (txO l1 []).start), (.slice xa24 (txO l1 []).reads.length xc25), (.slice xa26 (txO l1 []).writes.length xc27)] (sub_range 0 rfl)))) ?_
  simp only [pS, pN, pA, pC, pZ]
  refine do_ rfl (.pointer (some ⟨n79, 0, none⟩)) (ex_field (q := ⟨n79, 0, none⟩) rfl (fa_27_0 _ _)) ?_
  simp only [pS, pN, pA, pC, pZ]
  refine do_ rfl (.slice xa70 (writeP p2).name.length xc71) (ex_load rfl (load1 (nagg_25 _) (St.cell S107 (i := 0) rfl rfl))) ?_
  simp only [pS, pN, pA, pC, pZ]
  refine do_ rfl (.slice xa91 (keyL l3).length xc92) (ex_move _) ?_
  simp only [pS, pN, pA, pC, pZ]
  refine stGives S107 rfl (ex_fn (vs := #[(.slice a12 (forestW (writesN l0 20)).length c13), (.agg #[(.int .i64 (txO l1 []).start), (.slice xa24 (txO l1 []).reads.length xc25), (.slice xa26 (txO l1 []).writes.length xc27)]), (.slice xa70 (writeP p2).name.length xc71), (.slice none 0 0), (.slice xa91 (keyL l3).length xc92)]) (map5 rfl rfl rfl rfl rfl) rfl (ent_49 _ _)) (scanNil_spec _ _ _ _ _ _ (forestW (writesN l0 20)) (txO l1 []) (writeP p2).name (keyL l3) (S107).sat (R10.mono (((((le20.trans le53).trans le67).trans le88).trans le97).trans le109)) ⟨_, _, _, _, rfl, (r28.mono ((((le53.trans le67).trans le88).trans le97).trans le109)), (r29.mono ((((le53.trans le67).trans le88).trans le97).trans le109))⟩ (r76.mono ((le88.trans le97).trans le109)) (R89.mono (le97.trans le109)) okf60 hT.1 (writeP_ok p2).name) ?_
  intro v123 w118 F120 S119 le121 R122
  obtain ⟨_, rfl, r126⟩ := R122
  obtain ⟨a124, c125, rfl, h127, h128⟩ := Sl.shape r126
  unfold maxLen at h128
  simp only [pS, pN, pA, pC, pZ]
  refine do_ rfl (.tuple #[(.slice a124 ([] : List Pr).length c125), (.int .i64 1)]) (ex_move _) ?_
  simp only [pS, pN, pA, pC, pZ]
  refine do_ rfl (.slice a124 ([] : List Pr).length c125) (ex_extract rfl rfl) ?_
  simp only [pS, pN, pA, pC, pZ]
  refine do_ rfl (.int .i64 1) (ex_extract rfl rfl) ?_
  simp only [pS, pN, pA, pC, pZ]
  refine do_ rfl (.slice a124 ([] : List Pr).length c125) (ex_assign _) ?_
  simp only [pS, pN, pA, pC, pZ]
  refine do_ rfl (.int .i64 1) (ex_assign _) ?_
  simp only [pS, pN, pA, pC, pZ]
  refine wl_nil (hK117 _ _ ?_)
  refine wp_seq_k (fun K129 hK129 => region_wl ?_)
  refine do_ rfl (.int .i64 0) (ex_move _) ?_
  simp only [pS, pN, pA, pC, pZ]
  refine do_ rfl (.bool true) (ex_eql (b := true) rfl rfl (by decide)) ?_
  simp only [pS, pN, pA, pC, pZ]
  refine do_ rfl (.bool true) (ex_move _) ?_
  simp only [pS, pN, pA, pC, pZ]
  refine do_ rfl (.int .i64 0) (ex_move _) ?_
  simp only [pS, pN, pA, pC, pZ]
  refine do_ rfl (.bool true) (ex_eql (b := true) rfl rfl (by decide)) ?_
  simp only [pS, pN, pA, pC, pZ]
  refine do_ rfl (.bool true) (ex_pick (b := true) rfl) ?_
  simp only [pS, pN, pA, pC, pZ]
  refine do_ rfl (.bool true) (ex_move _) ?_
  simp only [pS, pN, pA, pC, pZ]
  refine do_ rfl (.int .i64 1) (ex_move _) ?_
  simp only [pS, pN, pA, pC, pZ]
  refine do_ rfl (.bool true) (ex_eql (b := true) rfl rfl (by decide)) ?_
  simp only [pS, pN, pA, pC, pZ]
  refine do_ rfl (.bool true) (ex_pick (b := true) rfl) ?_
  simp only [pS, pN, pA, pC, pZ]
  refine do_ rfl (.bool true) (ex_move _) ?_
  simp only [pS, pN, pA, pC, pZ]
  refine do_ rfl (.slice a100 (rangeT (treeF g (writeP p2).name) (writeP p2).key (keyL l3)).length c101) (ex_move _) ?_
  simp only [pS, pN, pA, pC, pZ]
  refine do_ rfl (.slice a112 (rangeT (treeF g (writeP p2).name) (writeP p2).key (keyL l3)).length c113) (ex_move _) ?_
  simp only [pS, pN, pA, pC, pZ]
  refine stTells (v := (.bool true)) S119 rfl (ex_fn (vs := #[(.slice a100 (rangeT (treeF g (writeP p2).name) (writeP p2).key (keyL l3)).length c101), (.slice a112 (rangeT (treeF g (writeP p2).name) (writeP p2).key (keyL l3)).length c113)]) (map2 rfl rfl) rfl (ent_50 _ _)) (tells_bool (samePairs_spec _ _ _ _ (rangeT (treeF g (writeP p2).name) (writeP p2).key (keyL l3)) (rangeT (treeF g (writeP p2).name) (writeP p2).key (keyL l3)) (S119).sat (r102.mono (le109.trans le121)) (r114.mono le121) (by have := TreeOk.len (show TreeOk 60 (rangeT (treeF g (writeP p2).name) (writeP p2).key (keyL l3)) from ((treeF_ok okg (writeP p2).name).range (writeP p2).key (keyL l3))); omega)) (decide_eq_true (rfl))) (fun w130 S131 => ?_)
  simp only [pS, pN, pA, pC, pZ]
  refine do_ rfl (.bool true) (ex_pick (b := true) rfl) ?_
  simp only [pS, pN, pA, pC, pZ]
  refine do_ rfl (.bool true) (ex_move _) ?_
  simp only [pS, pN, pA, pC, pZ]
  refine do_ rfl (.slice a100 (rangeT (treeF g (writeP p2).name) (writeP p2).key (keyL l3)).length c101) (ex_move _) ?_
  simp only [pS, pN, pA, pC, pZ]
  refine stTells (v := (.int .i64 0)) S131 rfl (ex_fn (vs := #[(.slice a100 (rangeT (treeF g (writeP p2).name) (writeP p2).key (keyL l3)).length c101)]) (map1 rfl) rfl (ent_23 _ _)) (treeCheckOk_spec _ _ _ (rangeT (treeF g (writeP p2).name) (writeP p2).key (keyL l3)) (S131).sat (r102.mono (le109.trans le121)) (TreeOk.mono (show TreeOk 60 (rangeT (treeF g (writeP p2).name) (writeP p2).key (keyL l3)) from ((treeF_ok okg (writeP p2).name).range (writeP p2).key (keyL l3))) (by omega))) (fun w132 S133 => ?_)
  simp only [pS, pN, pA, pC, pZ]
  refine do_ rfl (.bool true) (ex_eql (b := true) rfl rfl (by decide)) ?_
  simp only [pS, pN, pA, pC, pZ]
  refine do_ rfl (.bool true) (ex_pick (b := true) rfl) ?_
  simp only [pS, pN, pA, pC, pZ]
  refine do_ rfl (.bool true) (ex_assign _) ?_
  simp only [pS, pN, pA, pC, pZ]
  refine wl_nil (hK129 _ _ ?_)
  refine wp_ret ?_
  (try simp only [Exit.then, Exit.inBlock, ↓reduceIte, Nat.reduceEqDiff])
  refine bodyPost_ret (v := (.bool true)) ?_ rfl ?_
  ·exact res_t rfl rfl
  ·exact ⟨rfl, S133.gr.below⟩
end Go.Proofs.Ytcpngkkconalhaa
