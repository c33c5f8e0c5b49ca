/- The walk of LookApplied -/
import Derived.Test.YtcpngkkconalhaaZ13
import Derived.Test.YtcpngkkconalhaaZ8
namespace Go.Proofs.Ytcpngkkconalhaa
open Go.RowKit
set_option maxRecDepth 100000
set_option linter.unusedVariables false
set_option linter.unusedSimpArgs false
set_option maxHeartbeats 8000000 in
theorem lookApplied_walk (W : World) (v0 : Value) (l0 : List Pl) (z0 : Pls (whole W) v0 l0) (v1 : Value) (l1 : List Pl) (z1 : Pls (whole W) v1 l1) (p2 : Pl) (v20 : Value) (z20 : Bs (whole W) v20 p2.name) (v21 : Value) (z21 : Bs (whole W) v21 p2.key) (v22 : Value) (z22 : Bs (whole W) v22 p2.value) :
    Calls Try.prog 15 #[v0, v1, .agg #[v20, v21, v22, .bool p2.gone]] W (Tells W (.bool true)) := by
 obtain ⟨a0, c0, rfl, q0, q0'⟩ := Sl.shape z0
 obtain ⟨a1, c1, rfl, q1, q1'⟩ := Sl.shape z1
 obtain ⟨a20, c20, rfl, _⟩ := z20.shape
 obtain ⟨a21, c21, rfl, _⟩ := z21.shape
 obtain ⟨a22, c22, rfl, _⟩ := z22.shape
 have okf : ForestOk 20 (forestW (writesN l0 20)) := (forestW_ok (writesN_ok l0 20)).mono (by have := writesN_len l0 20; omega)
 have okf60 : ForestOk 60 (forestW (writesN l0 20)) := ForestOk.mono okf (by omega)
 have S := St.start (Sat.whole W)
 go_enter Try.func15, Try.ntmps15
 refine wp_seq_k (fun K1 hK1 => region_wl ?_)
 refine stNew S (v := fun n => .pointer (some ⟨n, 0, none⟩)) rfl (ex_box (v := (.agg #[(.slice a20 p2.name.length c20), (.slice a21 p2.key.length c21), (.slice a22 p2.value.length c22), (.bool p2.gone)])) rfl) (fun n2 w3 S4 => ?_)
 simp only [pS, pN, pA, pC, pZ]
 have S4 : St W (whole W) w3 (whole W) [⟨n2, [(.slice a20 p2.name.length c20), (.slice a21 p2.key.length c21), (.slice a22 p2.value.length c22), (.bool p2.gone)], 30⟩] [] := S4
 refine do_ rfl (.bool false) (ex_assign _) ?_
 simp only [pS, pN, pA, pC, pZ]
 refine wl_nil (hK1 _ _ ?_)
 refine wp_seq_k (fun K5 hK5 => region_wl ?_)
 refine do_ rfl (.slice a0 l0.length c0) (ex_move _) ?_
 simp only [pS, pN, pA, pC, pZ]
 refine stGives S4 rfl (ex_fn (vs := #[(.slice a0 l0.length c0), (.int .i64 20)]) (map2 rfl rfl) rfl (ent_27 _ _)) (forest_spec _ _ _ l0 20 (S4).sat z0 (by omega)) ?_
 intro v11 w6 F8 S7 le9 R10
 obtain ⟨a12, c13, rfl, h14, h15⟩ := Sl.shape R10
 unfold maxLen at h15
 have R10 : Tns _ (.slice a12 (forestW (writesN l0 20)).length c13) (forestW (writesN l0 20)) := R10
 simp only [pS, pN, pA, pC, pZ]
 refine do_ rfl (.slice a12 (forestW (writesN l0 20)).length c13) (ex_assign _) ?_
 simp only [pS, pN, pA, pC, pZ]
 refine wl_nil (hK5 _ _ ?_)
 refine wp_seq_k (fun K16 hK16 => region_wl ?_)
 refine do_ rfl (.slice a1 l1.length c1) (ex_move _) ?_
 simp only [pS, pN, pA, pC, pZ]
 refine stGives S7 rfl (ex_fn (vs := #[(.slice a1 l1.length c1), (.slice none 0 0)]) (map2 rfl rfl) rfl (ent_41 _ _)) (txnOf_spec _ _ _ _ l1 [] (S7).sat (z1.mono le9) (Sl.nil _ _ _)) ?_
 intro v22 w17 F19 S18 le20 R21
 obtain ⟨_, rfl, R23⟩ := R21
 obtain ⟨xa24, xc25, xa26, xc27, rfl, r28, r29⟩ := R23
 simp only [pS, pN, pA, pC, pZ]
 refine do_ rfl (.tuple #[(.agg #[(.int .i64 (txO l1 []).start), (.slice xa24 (txO l1 []).reads.length xc25), (.slice xa26 (txO l1 []).writes.length xc27)]), (.bool true)]) (ex_move _) ?_
 simp only [pS, pN, pA, pC, pZ]
 refine do_ rfl (.agg #[(.int .i64 (txO l1 []).start), (.slice xa24 (txO l1 []).reads.length xc25), (.slice xa26 (txO l1 []).writes.length xc27)]) (ex_extract rfl rfl) ?_
 simp only [pS, pN, pA, pC, pZ]
 refine do_ rfl (.bool true) (ex_extract rfl rfl) ?_
 simp only [pS, pN, pA, pC, pZ]
 refine stNew S18 (v := fun n => .pointer (some ⟨n, 0, none⟩)) rfl (ex_alloc (zero_75 _)) (fun n30 w31 S32 => ?_)
 simp only [pS, pN, pA, pC, pZ]
 have S32 : St W (whole W) w31 F19 [⟨n30, [(.int .i64 0), (.slice none 0 0), (.slice none 0 0)], 75⟩, ⟨n2, [(.slice a20 p2.name.length c20), (.slice a21 p2.key.length c21), (.slice a22 p2.value.length c22), (.bool p2.gone)], 30⟩] [] := S32
 refine stStore (i := 0) (v := (.agg #[(.int .i64 (txO l1 []).start), (.slice xa24 (txO l1 []).reads.length xc25), (.slice xa26 (txO l1 []).writes.length xc27)])) S32 rfl rfl rfl rfl (size_75) (allc3 rfl rfl rfl) (Nat.le_of_ble_eq_true rfl) (fun w33 S34 => ?_)
 simp only [pS, pN, pA, pC, pZ]
 have S34 : St W (whole W) w33 F19 [⟨n30, [(.int .i64 (txO l1 []).start), (.slice xa24 (txO l1 []).reads.length xc25), (.slice xa26 (txO l1 []).writes.length xc27)], 75⟩, ⟨n2, [(.slice a20 p2.name.length c20), (.slice a21 p2.key.length c21), (.slice a22 p2.value.length c22), (.bool p2.gone)], 30⟩] [] := S34
 refine do_ rfl (.bool true) (ex_assign _) ?_
 simp only [pS, pN, pA, pC, pZ]
 refine wl_nil (hK16 _ _ ?_)
 refine wp_seq_k (fun K35 hK35 => ?_)
 have hT := txO_ok l1 []
 have hws := hT.1.writes
 have hae := applyE_ok (l := (forestW (writesN l0 20))) (ws := (txO l1 []).writes) hws (by omega)
 cases he : applyF (forestW (writesN l0 20)) (txO l1 []).writes with
 | none =>
  rw [he] at hae
  refine region_wl ?_
  refine do_ rfl (.slice a12 (forestW (writesN l0 20)).length c13) (ex_move _) ?_
  simp only [pS, pN, pA, pC, pZ]
  refine do_ rfl (.pointer (some ⟨n30, 2, none⟩)) (ex_field (q := ⟨n30, 2, none⟩) rfl (fa_75_2 _ _)) ?_
  simp only [pS, pN, pA, pC, pZ]
  refine do_ rfl (.slice xa26 (txO l1 []).writes.length xc27) (ex_load rfl (load1 (nagg_44 _) (St.cell S34 (i := 0) rfl rfl))) ?_
  simp only [pS, pN, pA, pC, pZ]
  refine stGives S34 rfl (ex_fn (vs := #[(.slice a12 (forestW (writesN l0 20)).length c13), (.slice xa26 (txO l1 []).writes.length xc27)]) (map2 rfl rfl) rfl (ent_34 _ _)) (apply_is (S34).sat (R10.mono le20) r29 okf60 hws hae) ?_
  intro v41 w36 F38 S37 le39 R40
  obtain ⟨_, rfl, r44⟩ := R40
  obtain ⟨a42, c43, rfl, h45, h46⟩ := Sl.shape r44
  unfold maxLen at h46
  simp only [pS, pN, pA, pC, pZ]
  refine do_ rfl (.tuple #[(.slice a42 ([] : Forest).length c43), (.int .i64 11)]) (ex_move _) ?_
  simp only [pS, pN, pA, pC, pZ]
  refine do_ rfl (.slice a42 ([] : Forest).length c43) (ex_extract rfl rfl) ?_
  simp only [pS, pN, pA, pC, pZ]
  refine do_ rfl (.int .i64 11) (ex_extract rfl rfl) ?_
  simp only [pS, pN, pA, pC, pZ]
  refine do_ rfl (.slice a42 ([] : Forest).length c43) (ex_assign _) ?_
  simp only [pS, pN, pA, pC, pZ]
  refine do_ rfl (.int .i64 11) (ex_assign _) ?_
  simp only [pS, pN, pA, pC, pZ]
  refine wl_nil (hK35 _ _ ?_)
  refine wp_seq_k (fun K47 hK47 => ?_)
  refine wp_seq_k (fun K48 hK48 => region_wl ?_)
  refine do_ rfl (.bool true) (ex_move _) ?_
  simp only [pS, pN, pA, pC, pZ]
  refine do_ rfl (.bool false) (ex_not (b := true) rfl rfl) ?_
  simp only [pS, pN, pA, pC, pZ]
  refine do_ rfl (.bool false) (ex_move _) ?_
  simp only [pS, pN, pA, pC, pZ]
  refine do_ rfl (.int .i64 11) (ex_move _) ?_
  simp only [pS, pN, pA, pC, pZ]
  refine do_ rfl (.bool true) (ex_neq (b := true) rfl rfl (by decide)) ?_
  simp only [pS, pN, pA, pC, pZ]
  refine do_ rfl (.bool true) (ex_pick (b := false) rfl) ?_
  simp only [pS, pN, pA, pC, pZ]
  refine wl_nil (hK48 _ _ ?_)
  refine wp_cond_true rfl ?_
  refine wp_seq_k (fun K49 hK49 => region_wl ?_)
  refine do_ rfl (.bool true) (ex_move _) ?_
  simp only [pS, pN, pA, pC, pZ]
  refine do_ rfl (.bool true) (ex_move _) ?_
  simp only [pS, pN, pA, pC, pZ]
  refine do_ rfl (.int .i64 11) (ex_move _) ?_
  simp only [pS, pN, pA, pC, pZ]
  refine do_ rfl (.bool true) (ex_eql (b := true) rfl rfl (by decide)) ?_
  simp only [pS, pN, pA, pC, pZ]
  refine do_ rfl (.bool true) (ex_pick (b := true) rfl) ?_
  simp only [pS, pN, pA, pC, pZ]
  refine do_ rfl (.bool true) (ex_assign _) ?_
  simp only [pS, pN, pA, pC, pZ]
  refine wl_nil (hK49 _ _ ?_)
  refine wp_ret ?_
  (try simp only [Exit.then, Exit.inBlock, ↓reduceIte, Nat.reduceEqDiff])
  refine bodyPost_ret (v := (.bool true)) ?_ rfl ?_
  ·exact res_t rfl rfl
  ·exact ⟨rfl, S37.gr.below⟩
 | some g =>
  rw [he] at hae
  have okg := applyF_ok60 okf60 hws he
  refine region_wl ?_
  refine do_ rfl (.slice a12 (forestW (writesN l0 20)).length c13) (ex_move _) ?_
  simp only [pS, pN, pA, pC, pZ]
  refine do_ rfl (.pointer (some ⟨n30, 2, none⟩)) (ex_field (q := ⟨n30, 2, none⟩) rfl (fa_75_2 _ _)) ?_
  simp only [pS, pN, pA, pC, pZ]
  refine do_ rfl (.slice xa26 (txO l1 []).writes.length xc27) (ex_load rfl (load1 (nagg_44 _) (St.cell S34 (i := 0) rfl rfl))) ?_
  simp only [pS, pN, pA, pC, pZ]
  refine stGives S34 rfl (ex_fn (vs := #[(.slice a12 (forestW (writesN l0 20)).length c13), (.slice xa26 (txO l1 []).writes.length xc27)]) (map2 rfl rfl) rfl (ent_34 _ _)) (apply_is (S34).sat (R10.mono le20) r29 okf60 hws hae) ?_
  intro v55 w50 F52 S51 le53 R54
  obtain ⟨_, rfl, r58⟩ := R54
  obtain ⟨a56, c57, rfl, h59, h60⟩ := Sl.shape r58
  unfold maxLen at h60
  have h59 : g.length ≤ c57 := h59
  have r58 : Tns _ (.slice a56 g.length c57) g := r58
  simp only [pS, pN, pA, pC, pZ]
  refine do_ rfl (.tuple #[(.slice a56 g.length c57), (.int .i64 0)]) (ex_move _) ?_
  simp only [pS, pN, pA, pC, pZ]
  refine do_ rfl (.slice a56 g.length c57) (ex_extract rfl rfl) ?_
  simp only [pS, pN, pA, pC, pZ]
  refine do_ rfl (.int .i64 0) (ex_extract rfl rfl) ?_
  simp only [pS, pN, pA, pC, pZ]
  refine do_ rfl (.slice a56 g.length c57) (ex_assign _) ?_
  simp only [pS, pN, pA, pC, pZ]
  refine do_ rfl (.int .i64 0) (ex_assign _) ?_
  simp only [pS, pN, pA, pC, pZ]
  refine wl_nil (hK35 _ _ ?_)
  refine wp_seq_k (fun K61 hK61 => ?_)
  refine wp_seq_k (fun K62 hK62 => region_wl ?_)
  refine do_ rfl (.bool true) (ex_move _) ?_
  simp only [pS, pN, pA, pC, pZ]
  refine do_ rfl (.bool false) (ex_not (b := true) rfl rfl) ?_
  simp only [pS, pN, pA, pC, pZ]
  refine do_ rfl (.bool false) (ex_move _) ?_
  simp only [pS, pN, pA, pC, pZ]
  refine do_ rfl (.int .i64 0) (ex_move _) ?_
  simp only [pS, pN, pA, pC, pZ]
  refine do_ rfl (.bool false) (ex_neq (b := false) rfl rfl (by decide)) ?_
  simp only [pS, pN, pA, pC, pZ]
  refine do_ rfl (.bool false) (ex_pick (b := false) rfl) ?_
  simp only [pS, pN, pA, pC, pZ]
  refine wl_nil (hK62 _ _ ?_)
  refine wp_cond_false rfl ?_
  refine wp_skip ?_
  refine hK61 _ _ ?_
  refine wp_seq_k (fun K63 hK63 => region_wl ?_)
  refine do_ rfl (.agg #[(.slice a20 p2.name.length c20), (.slice a21 p2.key.length c21), (.slice a22 p2.value.length c22), (.bool p2.gone)]) (ex_load rfl (loadN (cs := [(.slice a20 p2.name.length c20), (.slice a21 p2.key.length c21), (.slice a22 p2.value.length c22), (.bool p2.gone)]) Try.underlying30 rfl (size_30) (St.range S51 (i := 1) rfl 0 [(.slice a20 p2.name.length c20), (.slice a21 p2.key.length c21), (.slice a22 p2.value.length c22), (.bool p2.gone)] (sub_range 0 rfl)))) ?_
  simp only [pS, pN, pA, pC, pZ]
  refine stGives S51 rfl (ex_fn (vs := #[(.agg #[(.slice a20 p2.name.length c20), (.slice a21 p2.key.length c21), (.slice a22 p2.value.length c22), (.bool p2.gone)])]) (map1 rfl) rfl (ent_19 _ _)) (keepWrite_spec _ _ _ p2 (S51).sat ⟨_, _, _, _, _, _, rfl, (z20.mono ((le9.trans le20).trans le53)), (z21.mono ((le9.trans le20).trans le53)), (z22.mono ((le9.trans le20).trans le53))⟩) ?_
  intro v69 w64 F66 S65 le67 R68
  obtain ⟨xa70, xc71, xa72, xc73, xa74, xc75, rfl, r76, r77, r78⟩ := R68
  simp only [pS, pN, pA, pC, pZ]
  refine stNew S65 (v := fun n => .pointer (some ⟨n, 0, none⟩)) rfl (ex_alloc (zero_27 _)) (fun n79 w80 S81 => ?_)
  simp only [pS, pN, pA, pC, pZ]
  have S81 : St W (whole W) w80 F66 [⟨n79, [(.slice none 0 0), (.slice none 0 0), (.bool false), (.slice none 0 0)], 27⟩, ⟨n30, [(.int .i64 (txO l1 []).start), (.slice xa24 (txO l1 []).reads.length xc25), (.slice xa26 (txO l1 []).writes.length xc27)], 75⟩, ⟨n2, [(.slice a20 p2.name.length c20), (.slice a21 p2.key.length c21), (.slice a22 p2.value.length c22), (.bool p2.gone)], 30⟩] [] := S81
  refine stStore (i := 0) (v := (.agg #[(.slice xa70 (writeP p2).name.length xc71), (.slice xa72 (writeP p2).key.length xc73), (.bool (writeP p2).gone), (.slice xa74 (writeP p2).value.length xc75)])) S81 rfl rfl rfl rfl (size_27) (allc4 rfl rfl rfl rfl) (Nat.le_of_ble_eq_true rfl) (fun w82 S83 => ?_)
  simp only [pS, pN, pA, pC, pZ]
  have S83 : St W (whole W) w82 F66 [⟨n79, [(.slice xa70 (writeP p2).name.length xc71), (.slice xa72 (writeP p2).key.length xc73), (.bool (writeP p2).gone), (.slice xa74 (writeP p2).value.length xc75)], 27⟩, ⟨n30, [(.int .i64 (txO l1 []).start), (.slice xa24 (txO l1 []).reads.length xc25), (.slice xa26 (txO l1 []).writes.length xc27)], 75⟩, ⟨n2, [(.slice a20 p2.name.length c20), (.slice a21 p2.key.length c21), (.slice a22 p2.value.length c22), (.bool p2.gone)], 30⟩] [] := S83
  refine wl_nil (hK63 _ _ ?_)
  refine wp_seq_k (fun K84 hK84 => region_wl ?_)
  refine do_ rfl (.slice a12 (forestW (writesN l0 20)).length c13) (ex_move _) ?_
  simp only [pS, pN, pA, pC, pZ]
  refine do_ rfl (.agg #[(.int .i64 (txO l1 []).start), (.slice xa24 (txO l1 []).reads.length xc25), (.slice xa26 (txO l1 []).writes.length xc27)]) (ex_load rfl (loadN (cs := [(.int .i64 (txO l1 []).start), (.slice xa24 (txO l1 []).reads.length xc25), (.slice xa26 (txO l1 []).writes.length xc27)]) Try.underlying75 rfl (size_75) (St.range S83 (i := 1) rfl 0 [(.int .i64 (txO l1 []).start), (.slice xa24 (txO l1 []).reads.length xc25), (.slice xa26 (txO l1 []).writes.length xc27)] (sub_range 0 rfl)))) ?_
  simp only [pS, pN, pA, pC, pZ]
  refine do_ rfl (.pointer (some ⟨n79, 0, none⟩)) (ex_field (q := ⟨n79, 0, none⟩) rfl (fa_27_0 _ _)) ?_
  simp only [pS, pN, pA, pC, pZ]
  refine do_ rfl (.slice xa70 (writeP p2).name.length xc71) (ex_load rfl (load1 (nagg_25 _) (St.cell S83 (i := 0) rfl rfl))) ?_
  simp only [pS, pN, pA, pC, pZ]
  refine do_ rfl (.pointer (some ⟨n79, 1, none⟩)) (ex_field (q := ⟨n79, 1, none⟩) rfl (fa_27_1 _ _)) ?_
  simp only [pS, pN, pA, pC, pZ]
  refine do_ rfl (.slice xa72 (writeP p2).key.length xc73) (ex_load rfl (load1 (nagg_25 _) (St.cell S83 (i := 0) rfl rfl))) ?_
  simp only [pS, pN, pA, pC, pZ]
  refine stGives S83 rfl (ex_fn (vs := #[(.slice a12 (forestW (writesN l0 20)).length c13), (.agg #[(.int .i64 (txO l1 []).start), (.slice xa24 (txO l1 []).reads.length xc25), (.slice xa26 (txO l1 []).writes.length xc27)]), (.slice xa70 (writeP p2).name.length xc71), (.slice xa72 (writeP p2).key.length xc73)]) (map4 rfl rfl rfl rfl) rfl (ent_48 _ _)) (lookIs_spec _ _ _ _ _ _ (forestW (writesN l0 20)) (txO l1 []) ((writeP p2).name) ((writeP p2).key) (S83).sat (R10.mono ((le20.trans le53).trans le67)) ⟨_, _, _, _, rfl, (r28.mono (le53.trans le67)), (r29.mono (le53.trans le67))⟩ r76 r77 okf60 hT.1 (WrOk.name (writeP_ok p2)) ⟨WrOk.key1 (writeP_ok p2), WrOk.key2 (writeP_ok p2)⟩ (Prod.ext (look_applied okf60 hT.1 he _ _) rfl)) ?_
  intro v90 w85 F87 S86 le88 R89
  obtain ⟨_, rfl, a91, c92, rfl, r93⟩ := R89
  have r93 : Bs _ (.slice a91 ((getF g (writeP p2).name (writeP p2).key).getD []).length c92) ((getF g (writeP p2).name (writeP p2).key).getD []) := r93
  simp only [pS, pN, pA, pC, pZ]
  refine do_ rfl (.tuple #[(.agg #[(.bool (getF g (writeP p2).name (writeP p2).key).isSome), (.slice a91 ((getF g (writeP p2).name (writeP p2).key).getD []).length c92)]), (.bool (lookX (forestW (writesN l0 20)) (txO l1 []) (writeP p2).name (writeP p2).key).2), (.int .i64 0)]) (ex_move _) ?_
  simp only [pS, pN, pA, pC, pZ]
  refine do_ rfl (.agg #[(.bool (getF g (writeP p2).name (writeP p2).key).isSome), (.slice a91 ((getF g (writeP p2).name (writeP p2).key).getD []).length c92)]) (ex_extract rfl rfl) ?_
  simp only [pS, pN, pA, pC, pZ]
  refine do_ rfl (.bool (lookX (forestW (writesN l0 20)) (txO l1 []) (writeP p2).name (writeP p2).key).2) (ex_extract rfl rfl) ?_
  simp only [pS, pN, pA, pC, pZ]
  refine do_ rfl (.int .i64 0) (ex_extract rfl rfl) ?_
  simp only [pS, pN, pA, pC, pZ]
  refine stNew S86 (v := fun n => .pointer (some ⟨n, 0, none⟩)) rfl (ex_alloc (zero_38 _)) (fun n95 w96 S97 => ?_)
  simp only [pS, pN, pA, pC, pZ]
  have S97 : St W (whole W) w96 F87 [⟨n95, [(.bool false), (.slice none 0 0)], 38⟩, ⟨n79, [(.slice xa70 (writeP p2).name.length xc71), (.slice xa72 (writeP p2).key.length xc73), (.bool (writeP p2).gone), (.slice xa74 (writeP p2).value.length xc75)], 27⟩, ⟨n30, [(.int .i64 (txO l1 []).start), (.slice xa24 (txO l1 []).reads.length xc25), (.slice xa26 (txO l1 []).writes.length xc27)], 75⟩, ⟨n2, [(.slice a20 p2.name.length c20), (.slice a21 p2.key.length c21), (.slice a22 p2.value.length c22), (.bool p2.gone)], 30⟩] [] := S97
  refine stStore (i := 0) (v := (.agg #[(.bool (getF g (writeP p2).name (writeP p2).key).isSome), (.slice a91 ((getF g (writeP p2).name (writeP p2).key).getD []).length c92)])) S97 rfl rfl rfl rfl (size_38) (allc2 rfl rfl) (Nat.le_of_ble_eq_true rfl) (fun w98 S99 => ?_)
  simp only [pS, pN, pA, pC, pZ]
  have S99 : St W (whole W) w98 F87 [⟨n95, [(.bool (getF g (writeP p2).name (writeP p2).key).isSome), (.slice a91 ((getF g (writeP p2).name (writeP p2).key).getD []).length c92)], 38⟩, ⟨n79, [(.slice xa70 (writeP p2).name.length xc71), (.slice xa72 (writeP p2).key.length xc73), (.bool (writeP p2).gone), (.slice xa74 (writeP p2).value.length xc75)], 27⟩, ⟨n30, [(.int .i64 (txO l1 []).start), (.slice xa24 (txO l1 []).reads.length xc25), (.slice xa26 (txO l1 []).writes.length xc27)], 75⟩, ⟨n2, [(.slice a20 p2.name.length c20), (.slice a21 p2.key.length c21), (.slice a22 p2.value.length c22), (.bool p2.gone)], 30⟩] [] := S99
  refine do_ rfl (.bool (lookX (forestW (writesN l0 20)) (txO l1 []) (writeP p2).name (writeP p2).key).2) (ex_assign _) ?_
  simp only [pS, pN, pA, pC, pZ]
  refine do_ rfl (.int .i64 0) (ex_assign _) ?_
  simp only [pS, pN, pA, pC, pZ]
  refine wl_nil (hK84 _ _ ?_)
  refine wp_seq_k (fun K100 hK100 => region_wl ?_)
  refine do_ rfl (.slice a56 g.length c57) (ex_move _) ?_
  simp only [pS, pN, pA, pC, pZ]
  refine do_ rfl (.pointer (some ⟨n79, 0, none⟩)) (ex_field (q := ⟨n79, 0, none⟩) rfl (fa_27_0 _ _)) ?_
  simp only [pS, pN, pA, pC, pZ]
  refine do_ rfl (.slice xa70 (writeP p2).name.length xc71) (ex_load rfl (load1 (nagg_25 _) (St.cell S99 (i := 1) rfl rfl))) ?_
  simp only [pS, pN, pA, pC, pZ]
  refine do_ rfl (.pointer (some ⟨n79, 1, none⟩)) (ex_field (q := ⟨n79, 1, none⟩) rfl (fa_27_1 _ _)) ?_
  simp only [pS, pN, pA, pC, pZ]
  refine do_ rfl (.slice xa72 (writeP p2).key.length xc73) (ex_load rfl (load1 (nagg_25 _) (St.cell S99 (i := 1) rfl rfl))) ?_
  simp only [pS, pN, pA, pC, pZ]
  refine stGives S99 rfl (ex_fn (vs := #[(.slice a56 g.length c57), (.slice xa70 (writeP p2).name.length xc71), (.slice xa72 (writeP p2).key.length xc73)]) (map3 rfl rfl rfl) rfl (ent_30 _ _)) (getF_spec _ _ _ _ _ g ((writeP p2).name) ((writeP p2).key) (S99).sat (r58.mono (le67.trans le88)) (r76.mono le88) (r77.mono le88) okg (WrOk.name (writeP_ok p2)) ⟨WrOk.key1 (writeP_ok p2), WrOk.key2 (writeP_ok p2)⟩) ?_
  intro v106 w101 F103 S102 le104 R105
  obtain ⟨_, rfl, a107, c108, rfl, r109⟩ := R105
  have r109 : Bs _ (.slice a107 ((getF g ((writeP p2).name) ((writeP p2).key)).getD []).length c108) ((getF g ((writeP p2).name) ((writeP p2).key)).getD []) := r109
  simp only [pS, pN, pA, pC, pZ]
  refine do_ rfl (.tuple #[(.agg #[(.bool (getF g ((writeP p2).name) ((writeP p2).key)).isSome), (.slice a107 ((getF g ((writeP p2).name) ((writeP p2).key)).getD []).length c108)]), (.int .i64 0)]) (ex_move _) ?_
  simp only [pS, pN, pA, pC, pZ]
  refine do_ rfl (.agg #[(.bool (getF g ((writeP p2).name) ((writeP p2).key)).isSome), (.slice a107 ((getF g ((writeP p2).name) ((writeP p2).key)).getD []).length c108)]) (ex_extract rfl rfl) ?_
  simp only [pS, pN, pA, pC, pZ]
  refine do_ rfl (.int .i64 0) (ex_extract rfl rfl) ?_
  simp only [pS, pN, pA, pC, pZ]
  refine stNew S102 (v := fun n => .pointer (some ⟨n, 0, none⟩)) rfl (ex_alloc (zero_38 _)) (fun n110 w111 S112 => ?_)
  simp only [pS, pN, pA, pC, pZ]
  have S112 : St W (whole W) w111 F103 [⟨n110, [(.bool false), (.slice none 0 0)], 38⟩, ⟨n95, [(.bool (getF g (writeP p2).name (writeP p2).key).isSome), (.slice a91 ((getF g (writeP p2).name (writeP p2).key).getD []).length c92)], 38⟩, ⟨n79, [(.slice xa70 (writeP p2).name.length xc71), (.slice xa72 (writeP p2).key.length xc73), (.bool (writeP p2).gone), (.slice xa74 (writeP p2).value.length xc75)], 27⟩, ⟨n30, [(.int .i64 (txO l1 []).start), (.slice xa24 (txO l1 []).reads.length xc25), (.slice xa26 (txO l1 []).writes.length xc27)], 75⟩, ⟨n2, [(.slice a20 p2.name.length c20), (.slice a21 p2.key.length c21), (.slice a22 p2.value.length c22), (.bool p2.gone)], 30⟩] [] := S112
  refine stStore (i := 0) (v := (.agg #[(.bool (getF g ((writeP p2).name) ((writeP p2).key)).isSome), (.slice a107 ((getF g ((writeP p2).name) ((writeP p2).key)).getD []).length c108)])) S112 rfl rfl rfl rfl (size_38) (allc2 rfl rfl) (Nat.le_of_ble_eq_true rfl) (fun w113 S114 => ?_)
  simp only [pS, pN, pA, pC, pZ]
  have S114 : St W (whole W) w113 F103 [⟨n110, [(.bool (getF g ((writeP p2).name) ((writeP p2).key)).isSome), (.slice a107 ((getF g ((writeP p2).name) ((writeP p2).key)).getD []).length c108)], 38⟩, ⟨n95, [(.bool (getF g (writeP p2).name (writeP p2).key).isSome), (.slice a91 ((getF g (writeP p2).name (writeP p2).key).getD []).length c92)], 38⟩, ⟨n79, [(.slice xa70 (writeP p2).name.length xc71), (.slice xa72 (writeP p2).key.length xc73), (.bool (writeP p2).gone), (.slice xa74 (writeP p2).value.length xc75)], 27⟩, ⟨n30, [(.int .i64 (txO l1 []).start), (.slice xa24 (txO l1 []).reads.length xc25), (.slice xa26 (txO l1 []).writes.length xc27)], 75⟩, ⟨n2, [(.slice a20 p2.name.length c20), (.slice a21 p2.key.length c21), (.slice a22 p2.value.length c22), (.bool p2.gone)], 30⟩] [] := S114
  refine do_ rfl (.int .i64 0) (ex_assign _) ?_
  simp only [pS, pN, pA, pC, pZ]
  refine wl_nil (hK100 _ _ ?_)
  refine wp_seq_k (fun K115 hK115 => region_wl ?_)
  refine do_ rfl (.slice a12 (forestW (writesN l0 20)).length c13) (ex_move _) ?_
  simp only [pS, pN, pA, pC, pZ]
  refine do_ rfl (.agg #[(.int .i64 (txO l1 []).start), (.slice xa24 (txO l1 []).reads.length xc25), (.slice xa26 (txO l1 []).writes.length xc27)]) (ex_load rfl (loadN (cs := [(.int .i64 (txO l1 []).start), (.slice xa24 (txO l1 []).reads.length xc25), (.slice xa26 (txO l1 []).writes.length xc27)]) Try.underlying75 rfl (size_75) (St.range S114 (i := 3) rfl 0 [(.int .i64 (txO l1 []).start), (.slice xa24 (txO l1 []).reads.length xc25), (.slice xa26 (txO l1 []).writes.length xc27)] (sub_range 0 rfl)))) ?_
  simp only [pS, pN, pA, pC, pZ]
  refine do_ rfl (.pointer (some ⟨n79, 1, none⟩)) (ex_field (q := ⟨n79, 1, none⟩) rfl (fa_27_1 _ _)) ?_
  simp only [pS, pN, pA, pC, pZ]
  refine do_ rfl (.slice xa72 (writeP p2).key.length xc73) (ex_load rfl (load1 (nagg_25 _) (St.cell S114 (i := 2) rfl rfl))) ?_
  simp only [pS, pN, pA, pC, pZ]
  refine stGives S114 rfl (ex_fn (vs := #[(.slice a12 (forestW (writesN l0 20)).length c13), (.agg #[(.int .i64 (txO l1 []).start), (.slice xa24 (txO l1 []).reads.length xc25), (.slice xa26 (txO l1 []).writes.length xc27)]), (.slice none 0 0), (.slice xa72 (writeP p2).key.length xc73)]) (map4 rfl rfl rfl rfl) rfl (ent_48 _ _)) (lookNil_spec _ _ _ _ _ (forestW (writesN l0 20)) (txO l1 []) ((writeP p2).key) (S114).sat (R10.mono ((((le20.trans le53).trans le67).trans le88).trans le104)) ⟨_, _, _, _, rfl, (r28.mono (((le53.trans le67).trans le88).trans le104)), (r29.mono (((le53.trans le67).trans le88).trans le104))⟩ (r77.mono (le88.trans le104)) okf60 hT.1) ?_
  intro v121 w116 F118 S117 le119 R120
  obtain ⟨_, rfl, a122, c123, rfl, r124⟩ := R120
  simp only [pS, pN, pA, pC, pZ]
  refine do_ rfl (.tuple #[(.agg #[(.bool false), (.slice a122 ([] : By).length c123)]), (.bool false), (.int .i64 1)]) (ex_move _) ?_
  simp only [pS, pN, pA, pC, pZ]
  refine do_ rfl (.agg #[(.bool false), (.slice a122 ([] : By).length c123)]) (ex_extract rfl rfl) ?_
  simp only [pS, pN, pA, pC, pZ]
  refine do_ rfl (.bool false) (ex_extract rfl rfl) ?_
  simp only [pS, pN, pA, pC, pZ]
  refine do_ rfl (.int .i64 1) (ex_extract rfl rfl) ?_
  simp only [pS, pN, pA, pC, pZ]
  refine stNew S117 (v := fun n => .pointer (some ⟨n, 0, none⟩)) rfl (ex_alloc (zero_38 _)) (fun n125 w126 S127 => ?_)
  simp only [pS, pN, pA, pC, pZ]
  have S127 : St W (whole W) w126 F118 [⟨n125, [(.bool false), (.slice none 0 0)], 38⟩, ⟨n110, [(.bool (getF g ((writeP p2).name) ((writeP p2).key)).isSome), (.slice a107 ((getF g ((writeP p2).name) ((writeP p2).key)).getD []).length c108)], 38⟩, ⟨n95, [(.bool (getF g (writeP p2).name (writeP p2).key).isSome), (.slice a91 ((getF g (writeP p2).name (writeP p2).key).getD []).length c92)], 38⟩, ⟨n79, [(.slice xa70 (writeP p2).name.length xc71), (.slice xa72 (writeP p2).key.length xc73), (.bool (writeP p2).gone), (.slice xa74 (writeP p2).value.length xc75)], 27⟩, ⟨n30, [(.int .i64 (txO l1 []).start), (.slice xa24 (txO l1 []).reads.length xc25), (.slice xa26 (txO l1 []).writes.length xc27)], 75⟩, ⟨n2, [(.slice a20 p2.name.length c20), (.slice a21 p2.key.length c21), (.slice a22 p2.value.length c22), (.bool p2.gone)], 30⟩] [] := S127
  refine stStore (i := 0) (v := (.agg #[(.bool false), (.slice a122 ([] : By).length c123)])) S127 rfl rfl rfl rfl (size_38) (allc2 rfl rfl) (Nat.le_of_ble_eq_true rfl) (fun w128 S129 => ?_)
  simp only [pS, pN, pA, pC, pZ]
  have S129 : St W (whole W) w128 F118 [⟨n125, [(.bool false), (.slice a122 ([] : By).length c123)], 38⟩, ⟨n110, [(.bool (getF g ((writeP p2).name) ((writeP p2).key)).isSome), (.slice a107 ((getF g ((writeP p2).name) ((writeP p2).key)).getD []).length c108)], 38⟩, ⟨n95, [(.bool (getF g (writeP p2).name (writeP p2).key).isSome), (.slice a91 ((getF g (writeP p2).name (writeP p2).key).getD []).length c92)], 38⟩, ⟨n79, [(.slice xa70 (writeP p2).name.length xc71), (.slice xa72 (writeP p2).key.length xc73), (.bool (writeP p2).gone), (.slice xa74 (writeP p2).value.length xc75)], 27⟩, ⟨n30, [(.int .i64 (txO l1 []).start), (.slice xa24 (txO l1 []).reads.length xc25), (.slice xa26 (txO l1 []).writes.length xc27)], 75⟩, ⟨n2, [(.slice a20 p2.name.length c20), (.slice a21 p2.key.length c21), (.slice a22 p2.value.length c22), (.bool p2.gone)], 30⟩] [] := S129
  refine do_ rfl (.bool false) (ex_assign _) ?_
  simp only [pS, pN, pA, pC, pZ]
  refine do_ rfl (.int .i64 1) (ex_assign _) ?_
  simp only [pS, pN, pA, pC, pZ]
  refine wl_nil (hK115 _ _ ?_)
  refine wp_seq_k (fun K130 hK130 => region_wl ?_)
  refine do_ rfl (.int .i64 0) (ex_move _) ?_
  simp only [pS, pN, pA, pC, pZ]
  refine do_ rfl (.bool true) (ex_eql (b := true) rfl rfl (by decide)) ?_
  simp only [pS, pN, pA, pC, pZ]
  refine do_ rfl (.bool true) (ex_move _) ?_
  simp only [pS, pN, pA, pC, pZ]
  refine do_ rfl (.int .i64 0) (ex_move _) ?_
  simp only [pS, pN, pA, pC, pZ]
  refine do_ rfl (.bool true) (ex_eql (b := true) rfl rfl (by decide)) ?_
  simp only [pS, pN, pA, pC, pZ]
  refine do_ rfl (.bool true) (ex_pick (b := true) rfl) ?_
  simp only [pS, pN, pA, pC, pZ]
  refine do_ rfl (.bool true) (ex_move _) ?_
  simp only [pS, pN, pA, pC, pZ]
  refine do_ rfl (.int .i64 1) (ex_move _) ?_
  simp only [pS, pN, pA, pC, pZ]
  refine do_ rfl (.bool true) (ex_eql (b := true) rfl rfl (by decide)) ?_
  simp only [pS, pN, pA, pC, pZ]
  refine do_ rfl (.bool true) (ex_pick (b := true) rfl) ?_
  simp only [pS, pN, pA, pC, pZ]
  refine do_ rfl (.bool true) (ex_move _) ?_
  simp only [pS, pN, pA, pC, pZ]
  refine do_ rfl (.pointer (some ⟨n95, 0, none⟩)) (ex_field (q := ⟨n95, 0, none⟩) rfl (fa_38_0 _ _)) ?_
  simp only [pS, pN, pA, pC, pZ]
  refine do_ rfl (.bool (getF g (writeP p2).name (writeP p2).key).isSome) (ex_load rfl (load1 (nagg_4 _) (St.cell S129 (i := 2) rfl rfl))) ?_
  simp only [pS, pN, pA, pC, pZ]
  refine do_ rfl (.pointer (some ⟨n110, 0, none⟩)) (ex_field (q := ⟨n110, 0, none⟩) rfl (fa_38_0 _ _)) ?_
  simp only [pS, pN, pA, pC, pZ]
  refine do_ rfl (.bool (getF g ((writeP p2).name) ((writeP p2).key)).isSome) (ex_load rfl (load1 (nagg_4 _) (St.cell S129 (i := 1) rfl rfl))) ?_
  simp only [pS, pN, pA, pC, pZ]
  refine do_ rfl (.bool true) (ex_eqlB Try.underlying4 rfl rfl (beq_iff_eq.2 rfl)) ?_
  simp only [pS, pN, pA, pC, pZ]
  refine do_ rfl (.bool true) (ex_pick (b := true) rfl) ?_
  simp only [pS, pN, pA, pC, pZ]
  refine do_ rfl (.bool true) (ex_move _) ?_
  simp only [pS, pN, pA, pC, pZ]
  refine do_ rfl (.pointer (some ⟨n95, 1, none⟩)) (ex_field (q := ⟨n95, 1, none⟩) rfl (fa_38_1 _ _)) ?_
  simp only [pS, pN, pA, pC, pZ]
  refine do_ rfl (.slice a91 ((getF g (writeP p2).name (writeP p2).key).getD []).length c92) (ex_load rfl (load1 (nagg_25 _) (St.cell S129 (i := 2) rfl rfl))) ?_
  simp only [pS, pN, pA, pC, pZ]
  refine do_ rfl (.pointer (some ⟨n110, 1, none⟩)) (ex_field (q := ⟨n110, 1, none⟩) rfl (fa_38_1 _ _)) ?_
  simp only [pS, pN, pA, pC, pZ]
  refine do_ rfl (.slice a107 ((getF g ((writeP p2).name) ((writeP p2).key)).getD []).length c108) (ex_load rfl (load1 (nagg_25 _) (St.cell S129 (i := 1) rfl rfl))) ?_
  simp only [pS, pN, pA, pC, pZ]
  refine stTells (v := (.bool true)) S129 rfl (ex_fn (vs := #[(.slice a91 ((getF g (writeP p2).name (writeP p2).key).getD []).length c92), (.slice a107 ((getF g ((writeP p2).name) ((writeP p2).key)).getD []).length c108)]) (map2 rfl rfl) rfl (ent_31 _ _)) (tells_bool (tells_same (same_spec _ _ _ _ ((getF g (writeP p2).name (writeP p2).key).getD []) ((getF g ((writeP p2).name) ((writeP p2).key)).getD []) (S129).sat (r93.mono (le104.trans le119)) (r109.mono le119))) (beq_iff_eq.2 (rfl))) (fun w131 S132 => ?_)
  simp only [pS, pN, pA, pC, pZ]
  refine do_ rfl (.bool true) (ex_pick (b := true) rfl) ?_
  simp only [pS, pN, pA, pC, pZ]
  refine do_ rfl (.bool true) (ex_assign _) ?_
  simp only [pS, pN, pA, pC, pZ]
  refine wl_nil (hK130 _ _ ?_)
  refine wp_ret ?_
  (try simp only [Exit.then, Exit.inBlock, ↓reduceIte, Nat.reduceEqDiff])
  refine bodyPost_ret (v := (.bool true)) ?_ rfl ?_
  ·exact res_t rfl rfl
  ·exact ⟨rfl, S132.gr.below⟩
end Go.Proofs.Ytcpngkkconalhaa
