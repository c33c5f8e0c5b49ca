/- The walk of ForestHolds -/
import Derived.Test.YtikklmjengkliaaDoorCB11
import Derived.Test.YtikklmjengkliaaDoorCB7
namespace Go.Proofs.YtikklmjengkliaaDoor
open Go.RowKit
set_option maxRecDepth 100000
set_option linter.unusedVariables false
set_option linter.unusedSimpArgs false
theorem forestProveT_spec (F : Fz) (w : World) (v u z : Value) (l : Forest) (n k : By) {t : List Pr} (hs : Sat w F) (hT : Tabs w) (hv : Tns F v l) (hn : Bs F u n) (hk : Bs F z k) (ok1 : ForestOk 60 l) (hnn : 1 ≤ n.length ∧ n.length ≤ 8) (hkk : 1 ≤ k.length ∧ k.length ≤ 16) (ht : treeF l n = t) :
    Calls Tryd.prog 21 #[v, u, z] w (Gives w F (PrvR (proveT (rootsF l) n) (proveT t k))) := ht ▸ forestProve_spec F w v u z l n k hs hT hv hn hk ok1 hnn hkk
theorem forestVerifyT_spec (F : Fz) (w : World) (z v u y1 y2 : Value) (l : Forest) (n k : By) {t : List Pr} (hs : Sat w F) (hT : Tabs w) (hr : Bs F z (rootF l)) (hn : Bs F v n) (hk : Bs F u k) (hv1 : PrfV F y1 (proveT (rootsF l) n)) (hv2 : PrfV F y2 (proveT t k)) (ok1 : ForestOk 60 l) (hnn : 1 ≤ n.length ∧ n.length ≤ 8) (hkk : 1 ≤ k.length ∧ k.length ≤ 16) (ht : treeF l n = t) :
    Calls Tryd.prog 22 #[z, v, u, y1, y2] w (Gives w F (GetR (getT t k) 0)) := by
  subst ht; exact forestVerify_spec F w z v u y1 y2 l n k hs hT hr hn hk hv1 hv2 ok1 hnn hkk
theorem tree_same {f g : Forest} {n : By} {m : Nat} (hf : ForestOk m f) (hg : ForestOk 60 g) (h : ∀ k, getF g n k = getF f n k) : treeF g n = treeF f n := tree_ext (treeF_ok hg n).rise (treeF_ok hf n).rise h
set_option maxHeartbeats 8000000 in
theorem forestHolds_walk (W : World) (hT : Tabs W) (v0 : Value) (l0 : List Pl) (z0 : Pls (whole W) v0 l0) (p1 : Pl) (v10 : Value) (z10 : Bs (whole W) v10 p1.name) (v11 : Value) (z11 : Bs (whole W) v11 p1.key) (v12 : Value) (z12 : Bs (whole W) v12 p1.value) :
    Calls Tryd.prog 5 #[v0, .agg #[v10, v11, v12, .bool p1.gone]] W (Tells W (.bool true)) := by
 obtain ⟨a0, c0, rfl, q0, q0'⟩ := Sl.shape z0
 obtain ⟨a10, c10, rfl, _⟩ := z10.shape
 obtain ⟨a11, c11, rfl, _⟩ := z11.shape
 obtain ⟨a12, c12, rfl, _⟩ := z12.shape
 have okf : ForestOk 60 (forestW (writesN l0 20)) := (forestW_ok (writesN_ok l0 20)).mono (by have := writesN_len l0 20; omega)
 have S := St.start (Sat.whole W)
 go_enter Tryd.func5, Tryd.ntmps5
 refine wp_seq_k (fun K101 hK101 => region_wl ?_)
 refine stNew S (v := fun n => .pointer (some ⟨n, 0, none⟩)) rfl (ex_box (v := (.agg #[(.slice a10 p1.name.length c10), (.slice a11 p1.key.length c11), (.slice a12 p1.value.length c12), (.bool p1.gone)])) rfl) (fun n102 w103 S104 => ?_)
 simp only [pS, pN, pA, pC, pZ]
 have S104 : St W (whole W) w103 (whole W) [⟨n102, [(.slice a10 p1.name.length c10), (.slice a11 p1.key.length c11), (.slice a12 p1.value.length c12), (.bool p1.gone)], 45⟩] [] := S104
 refine do_ rfl (.bool false) (ex_assign _) ?_
 simp only [pS, pN, pA, pC, pZ]
 refine wl_nil (hK101 _ _ ?_)
 refine wp_seq_k (fun K105 hK105 => region_wl ?_)
 refine do_ rfl (.slice a0 l0.length c0) (ex_move _) ?_
 simp only [pS, pN, pA, pC, pZ]
 refine stGives S104 rfl (ex_fn (vs := #[(.slice a0 l0.length c0), (.int .i64 20)]) (map2 rfl rfl) rfl (ent_14 _ _)) (forest_spec _ _ _ l0 20 (S104).sat z0 (by omega)) ?_
 intro v111 w106 F108 S107 le109 R110
 obtain ⟨a112, c113, rfl, h114, h115⟩ := Sl.shape R110
 unfold maxLen at h115
 have R110 : Tns _ (.slice a112 (forestW (writesN l0 20)).length c113) (forestW (writesN l0 20)) := R110
 simp only [pS, pN, pA, pC, pZ]
 refine do_ rfl (.slice a112 (forestW (writesN l0 20)).length c113) (ex_assign _) ?_
 simp only [pS, pN, pA, pC, pZ]
 refine wl_nil (hK105 _ _ ?_)
 refine wp_seq_k (fun K116 hK116 => region_wl ?_)
 refine do_ rfl (.agg #[(.slice a10 p1.name.length c10), (.slice a11 p1.key.length c11), (.slice a12 p1.value.length c12), (.bool p1.gone)]) (ex_load rfl (loadN (cs := [(.slice a10 p1.name.length c10), (.slice a11 p1.key.length c11), (.slice a12 p1.value.length c12), (.bool p1.gone)]) Tryd.underlying45 rfl (size_45) (St.range S107 (i := 0) rfl 0 [(.slice a10 p1.name.length c10), (.slice a11 p1.key.length c11), (.slice a12 p1.value.length c12), (.bool p1.gone)] (sub_range 0 rfl)))) ?_
 simp only [pS, pN, pA, pC, pZ]
 refine stGives S107 rfl (ex_fn (vs := #[(.agg #[(.slice a10 p1.name.length c10), (.slice a11 p1.key.length c11), (.slice a12 p1.value.length c12), (.bool p1.gone)])]) (map1 rfl) rfl (ent_20 _ _)) (keepWrite_spec _ _ _ p1 (S107).sat ⟨_, _, _, _, _, _, rfl, (z10.mono le109), (z11.mono le109), (z12.mono le109)⟩) ?_
 intro v122 w117 F119 S118 le120 R121
 obtain ⟨xa123, xc124, xa125, xc126, xa127, xc128, rfl, r129, r130, r131⟩ := R121
 simp only [pS, pN, pA, pC, pZ]
 refine stNew S118 (v := fun n => .pointer (some ⟨n, 0, none⟩)) rfl (ex_alloc (zero_36 _)) (fun n132 w133 S134 => ?_)
 simp only [pS, pN, pA, pC, pZ]
 have S134 : St W (whole W) w133 F119 [⟨n132, [(.slice none 0 0), (.slice none 0 0), (.bool false), (.slice none 0 0)], 36⟩, ⟨n102, [(.slice a10 p1.name.length c10), (.slice a11 p1.key.length c11), (.slice a12 p1.value.length c12), (.bool p1.gone)], 45⟩] [] := S134
 refine stStore (i := 0) (v := (.agg #[(.slice xa123 (writeP p1).name.length xc124), (.slice xa125 (writeP p1).key.length xc126), (.bool (writeP p1).gone), (.slice xa127 (writeP p1).value.length xc128)])) S134 rfl rfl rfl rfl (size_36) (allc4 rfl rfl rfl rfl) (Nat.le_of_ble_eq_true rfl) (fun w135 S136 => ?_)
 simp only [pS, pN, pA, pC, pZ]
 have S136 : St W (whole W) w135 F119 [⟨n132, [(.slice xa123 (writeP p1).name.length xc124), (.slice xa125 (writeP p1).key.length xc126), (.bool (writeP p1).gone), (.slice xa127 (writeP p1).value.length xc128)], 36⟩, ⟨n102, [(.slice a10 p1.name.length c10), (.slice a11 p1.key.length c11), (.slice a12 p1.value.length c12), (.bool p1.gone)], 45⟩] [] := S136
 refine wl_nil (hK116 _ _ ?_)
 refine wp_seq_k (fun K137 hK137 => region_wl ?_)
 refine do_ rfl (.slice a112 (forestW (writesN l0 20)).length c113) (ex_move _) ?_
 simp only [pS, pN, pA, pC, pZ]
 refine stGives S136 rfl (ex_fn (vs := #[(.slice a112 (forestW (writesN l0 20)).length c113)]) (map1 rfl) rfl (ent_17 _ _)) (forestRoot_spec _ _ _ (forestW (writesN l0 20)) (S136).sat (hT.at S136.gr.below) (R110.mono le120) okf) ?_
 intro v143 w138 F140 S139 le141 R142
 obtain ⟨x144, rfl, r145⟩ := R142
 obtain ⟨xa146, xc147, rfl, _⟩ := r145.shape
 have r145 : Bs _ (.slice xa146 (rootF (forestW (writesN l0 20))).length xc147) (rootF (forestW (writesN l0 20))) := r145
 simp only [pS, pN, pA, pC, pZ]
 refine do_ rfl (.tuple #[(.slice xa146 (rootF (forestW (writesN l0 20))).length xc147), (.int .i64 0)]) (ex_move _) ?_
 simp only [pS, pN, pA, pC, pZ]
 refine do_ rfl (.slice xa146 (rootF (forestW (writesN l0 20))).length xc147) (ex_extract rfl rfl) ?_
 simp only [pS, pN, pA, pC, pZ]
 refine do_ rfl (.int .i64 0) (ex_extract rfl rfl) ?_
 simp only [pS, pN, pA, pC, pZ]
 refine do_ rfl (.slice xa146 (rootF (forestW (writesN l0 20))).length xc147) (ex_assign _) ?_
 simp only [pS, pN, pA, pC, pZ]
 refine do_ rfl (.int .i64 0) (ex_assign _) ?_
 simp only [pS, pN, pA, pC, pZ]
 refine wl_nil (hK137 _ _ ?_)
 refine wp_seq_k (fun K148 hK148 => region_wl ?_)
 refine do_ rfl (.slice a112 (forestW (writesN l0 20)).length c113) (ex_move _) ?_
 simp only [pS, pN, pA, pC, pZ]
 refine do_ rfl (.pointer (some ⟨n132, 0, none⟩)) (ex_field (q := ⟨n132, 0, none⟩) rfl (fa_36_0 _ _)) ?_
 simp only [pS, pN, pA, pC, pZ]
 refine do_ rfl (.slice xa123 (writeP p1).name.length xc124) (ex_load rfl (load1 (nagg_23 _) (St.cell S139 (i := 0) rfl rfl))) ?_
 simp only [pS, pN, pA, pC, pZ]
 refine do_ rfl (.pointer (some ⟨n132, 1, none⟩)) (ex_field (q := ⟨n132, 1, none⟩) rfl (fa_36_1 _ _)) ?_
 simp only [pS, pN, pA, pC, pZ]
 refine do_ rfl (.slice xa125 (writeP p1).key.length xc126) (ex_load rfl (load1 (nagg_23 _) (St.cell S139 (i := 0) rfl rfl))) ?_
 simp only [pS, pN, pA, pC, pZ]
 refine stGives S139 rfl (ex_fn (vs := #[(.slice a112 (forestW (writesN l0 20)).length c113), (.slice xa123 (writeP p1).name.length xc124), (.slice xa125 (writeP p1).key.length xc126)]) (map3 rfl rfl rfl) rfl (ent_21 _ _)) (forestProveT_spec _ _ _ _ _ (forestW (writesN l0 20)) ((writeP p1).name) ((writeP p1).key) (t := (treeF (forestW (writesN l0 20)) ((writeP p1).name))) (S139).sat (hT.at S139.gr.below) (R110.mono (le120.trans le141)) (r129.mono le141) (r130.mono le141) okf (writeP_ok p1).name ⟨(writeP_ok p1).key1, (writeP_ok p1).key2⟩ rfl) ?_
 intro v154 w149 F151 S150 le152 R153
 obtain ⟨_, _, rfl, ⟨sa155, sc156, ka157, kc158, va159, vc160, rfl, r161, r162, r163⟩, ⟨sa164, sc165, ka166, kc167, va168, vc169, rfl, r170, r171, r172⟩⟩ := R153
 simp only [pS, pN, pA, pC, pZ]
 refine do_ rfl (.tuple #[(.agg #[(.bool (proveT (rootsF (forestW (writesN l0 20))) ((writeP p1).name)).empty), (.slice sa155 (proveT (rootsF (forestW (writesN l0 20))) ((writeP p1).name)).steps.length sc156), (.slice ka157 (proveT (rootsF (forestW (writesN l0 20))) ((writeP p1).name)).pair.1.length kc158), (.slice va159 (proveT (rootsF (forestW (writesN l0 20))) ((writeP p1).name)).pair.2.length vc160)]), (.agg #[(.bool (proveT (treeF (forestW (writesN l0 20)) ((writeP p1).name)) ((writeP p1).key)).empty), (.slice sa164 (proveT (treeF (forestW (writesN l0 20)) ((writeP p1).name)) ((writeP p1).key)).steps.length sc165), (.slice ka166 (proveT (treeF (forestW (writesN l0 20)) ((writeP p1).name)) ((writeP p1).key)).pair.1.length kc167), (.slice va168 (proveT (treeF (forestW (writesN l0 20)) ((writeP p1).name)) ((writeP p1).key)).pair.2.length vc169)]), (.int .i64 0)]) (ex_move _) ?_
 simp only [pS, pN, pA, pC, pZ]
 refine do_ rfl (.agg #[(.bool (proveT (rootsF (forestW (writesN l0 20))) ((writeP p1).name)).empty), (.slice sa155 (proveT (rootsF (forestW (writesN l0 20))) ((writeP p1).name)).steps.length sc156), (.slice ka157 (proveT (rootsF (forestW (writesN l0 20))) ((writeP p1).name)).pair.1.length kc158), (.slice va159 (proveT (rootsF (forestW (writesN l0 20))) ((writeP p1).name)).pair.2.length vc160)]) (ex_extract rfl rfl) ?_
 simp only [pS, pN, pA, pC, pZ]
 refine do_ rfl (.agg #[(.bool (proveT (treeF (forestW (writesN l0 20)) ((writeP p1).name)) ((writeP p1).key)).empty), (.slice sa164 (proveT (treeF (forestW (writesN l0 20)) ((writeP p1).name)) ((writeP p1).key)).steps.length sc165), (.slice ka166 (proveT (treeF (forestW (writesN l0 20)) ((writeP p1).name)) ((writeP p1).key)).pair.1.length kc167), (.slice va168 (proveT (treeF (forestW (writesN l0 20)) ((writeP p1).name)) ((writeP p1).key)).pair.2.length vc169)]) (ex_extract rfl rfl) ?_
 simp only [pS, pN, pA, pC, pZ]
 refine do_ rfl (.int .i64 0) (ex_extract rfl rfl) ?_
 simp only [pS, pN, pA, pC, pZ]
 refine stNew S150 (v := fun n => .pointer (some ⟨n, 0, none⟩)) rfl (ex_alloc (zero_49 _)) (fun n173 w174 S175 => ?_)
 simp only [pS, pN, pA, pC, pZ]
 have S175 : St W (whole W) w174 F151 [⟨n173, [(.bool false), (.slice none 0 0), (.slice none 0 0), (.slice none 0 0)], 49⟩, ⟨n132, [(.slice xa123 (writeP p1).name.length xc124), (.slice xa125 (writeP p1).key.length xc126), (.bool (writeP p1).gone), (.slice xa127 (writeP p1).value.length xc128)], 36⟩, ⟨n102, [(.slice a10 p1.name.length c10), (.slice a11 p1.key.length c11), (.slice a12 p1.value.length c12), (.bool p1.gone)], 45⟩] [] := S175
 refine stNew S175 (v := fun n => .pointer (some ⟨n, 0, none⟩)) rfl (ex_alloc (zero_49 _)) (fun n176 w177 S178 => ?_)
 simp only [pS, pN, pA, pC, pZ]
 have S178 : St W (whole W) w177 F151 [⟨n176, [(.bool false), (.slice none 0 0), (.slice none 0 0), (.slice none 0 0)], 49⟩, ⟨n173, [(.bool false), (.slice none 0 0), (.slice none 0 0), (.slice none 0 0)], 49⟩, ⟨n132, [(.slice xa123 (writeP p1).name.length xc124), (.slice xa125 (writeP p1).key.length xc126), (.bool (writeP p1).gone), (.slice xa127 (writeP p1).value.length xc128)], 36⟩, ⟨n102, [(.slice a10 p1.name.length c10), (.slice a11 p1.key.length c11), (.slice a12 p1.value.length c12), (.bool p1.gone)], 45⟩] [] := S178
 refine stStore (i := 1) (v := (.agg #[(.bool (proveT (rootsF (forestW (writesN l0 20))) ((writeP p1).name)).empty), (.slice sa155 (proveT (rootsF (forestW (writesN l0 20))) ((writeP p1).name)).steps.length sc156), (.slice ka157 (proveT (rootsF (forestW (writesN l0 20))) ((writeP p1).name)).pair.1.length kc158), (.slice va159 (proveT (rootsF (forestW (writesN l0 20))) ((writeP p1).name)).pair.2.length vc160)])) S178 rfl rfl rfl rfl (size_49) (allc4 rfl rfl rfl rfl) (Nat.le_of_ble_eq_true rfl) (fun w179 S180 => ?_)
 simp only [pS, pN, pA, pC, pZ]
 have S180 : St W (whole W) w179 F151 [⟨n176, [(.bool false), (.slice none 0 0), (.slice none 0 0), (.slice none 0 0)], 49⟩, ⟨n173, [(.bool (proveT (rootsF (forestW (writesN l0 20))) ((writeP p1).name)).empty), (.slice sa155 (proveT (rootsF (forestW (writesN l0 20))) ((writeP p1).name)).steps.length sc156), (.slice ka157 (proveT (rootsF (forestW (writesN l0 20))) ((writeP p1).name)).pair.1.length kc158), (.slice va159 (proveT (rootsF (forestW (writesN l0 20))) ((writeP p1).name)).pair.2.length vc160)], 49⟩, ⟨n132, [(.slice xa123 (writeP p1).name.length xc124), (.slice xa125 (writeP p1).key.length xc126), (.bool (writeP p1).gone), (.slice xa127 (writeP p1).value.length xc128)], 36⟩, ⟨n102, [(.slice a10 p1.name.length c10), (.slice a11 p1.key.length c11), (.slice a12 p1.value.length c12), (.bool p1.gone)], 45⟩] [] := S180
 refine stStore (i := 0) (v := (.agg #[(.bool (proveT (treeF (forestW (writesN l0 20)) ((writeP p1).name)) ((writeP p1).key)).empty), (.slice sa164 (proveT (treeF (forestW (writesN l0 20)) ((writeP p1).name)) ((writeP p1).key)).steps.length sc165), (.slice ka166 (proveT (treeF (forestW (writesN l0 20)) ((writeP p1).name)) ((writeP p1).key)).pair.1.length kc167), (.slice va168 (proveT (treeF (forestW (writesN l0 20)) ((writeP p1).name)) ((writeP p1).key)).pair.2.length vc169)])) S180 rfl rfl rfl rfl (size_49) (allc4 rfl rfl rfl rfl) (Nat.le_of_ble_eq_true rfl) (fun w181 S182 => ?_)
 simp only [pS, pN, pA, pC, pZ]
 have S182 : St W (whole W) w181 F151 [⟨n176, [(.bool (proveT (treeF (forestW (writesN l0 20)) ((writeP p1).name)) ((writeP p1).key)).empty), (.slice sa164 (proveT (treeF (forestW (writesN l0 20)) ((writeP p1).name)) ((writeP p1).key)).steps.length sc165), (.slice ka166 (proveT (treeF (forestW (writesN l0 20)) ((writeP p1).name)) ((writeP p1).key)).pair.1.length kc167), (.slice va168 (proveT (treeF (forestW (writesN l0 20)) ((writeP p1).name)) ((writeP p1).key)).pair.2.length vc169)], 49⟩, ⟨n173, [(.bool (proveT (rootsF (forestW (writesN l0 20))) ((writeP p1).name)).empty), (.slice sa155 (proveT (rootsF (forestW (writesN l0 20))) ((writeP p1).name)).steps.length sc156), (.slice ka157 (proveT (rootsF (forestW (writesN l0 20))) ((writeP p1).name)).pair.1.length kc158), (.slice va159 (proveT (rootsF (forestW (writesN l0 20))) ((writeP p1).name)).pair.2.length vc160)], 49⟩, ⟨n132, [(.slice xa123 (writeP p1).name.length xc124), (.slice xa125 (writeP p1).key.length xc126), (.bool (writeP p1).gone), (.slice xa127 (writeP p1).value.length xc128)], 36⟩, ⟨n102, [(.slice a10 p1.name.length c10), (.slice a11 p1.key.length c11), (.slice a12 p1.value.length c12), (.bool p1.gone)], 45⟩] [] := S182
 refine do_ rfl (.int .i64 0) (ex_assign _) ?_
 simp only [pS, pN, pA, pC, pZ]
 refine wl_nil (hK148 _ _ ?_)
 refine wp_seq_k (fun K183 hK183 => region_wl ?_)
 refine do_ rfl (.slice xa146 (rootF (forestW (writesN l0 20))).length xc147) (ex_move _) ?_
 simp only [pS, pN, pA, pC, pZ]
 refine do_ rfl (.pointer (some ⟨n132, 0, none⟩)) (ex_field (q := ⟨n132, 0, none⟩) rfl (fa_36_0 _ _)) ?_
 simp only [pS, pN, pA, pC, pZ]
 refine do_ rfl (.slice xa123 (writeP p1).name.length xc124) (ex_load rfl (load1 (nagg_23 _) (St.cell S182 (i := 2) rfl rfl))) ?_
 simp only [pS, pN, pA, pC, pZ]
 refine do_ rfl (.pointer (some ⟨n132, 1, none⟩)) (ex_field (q := ⟨n132, 1, none⟩) rfl (fa_36_1 _ _)) ?_
 simp only [pS, pN, pA, pC, pZ]
 refine do_ rfl (.slice xa125 (writeP p1).key.length xc126) (ex_load rfl (load1 (nagg_23 _) (St.cell S182 (i := 2) rfl rfl))) ?_
 simp only [pS, pN, pA, pC, pZ]
 refine do_ rfl (.agg #[(.bool (proveT (rootsF (forestW (writesN l0 20))) ((writeP p1).name)).empty), (.slice sa155 (proveT (rootsF (forestW (writesN l0 20))) ((writeP p1).name)).steps.length sc156), (.slice ka157 (proveT (rootsF (forestW (writesN l0 20))) ((writeP p1).name)).pair.1.length kc158), (.slice va159 (proveT (rootsF (forestW (writesN l0 20))) ((writeP p1).name)).pair.2.length vc160)]) (ex_load rfl (loadN (cs := [(.bool (proveT (rootsF (forestW (writesN l0 20))) ((writeP p1).name)).empty), (.slice sa155 (proveT (rootsF (forestW (writesN l0 20))) ((writeP p1).name)).steps.length sc156), (.slice ka157 (proveT (rootsF (forestW (writesN l0 20))) ((writeP p1).name)).pair.1.length kc158), (.slice va159 (proveT (rootsF (forestW (writesN l0 20))) ((writeP p1).name)).pair.2.length vc160)]) Tryd.underlying49 rfl (size_49) (St.range S182 (i := 1) rfl 0 [(.bool (proveT (rootsF (forestW (writesN l0 20))) ((writeP p1).name)).empty), (.slice sa155 (proveT (rootsF (forestW (writesN l0 20))) ((writeP p1).name)).steps.length sc156), (.slice ka157 (proveT (rootsF (forestW (writesN l0 20))) ((writeP p1).name)).pair.1.length kc158), (.slice va159 (proveT (rootsF (forestW (writesN l0 20))) ((writeP p1).name)).pair.2.length vc160)] (sub_range 0 rfl)))) ?_
 simp only [pS, pN, pA, pC, pZ]
 refine do_ rfl (.agg #[(.bool (proveT (treeF (forestW (writesN l0 20)) ((writeP p1).name)) ((writeP p1).key)).empty), (.slice sa164 (proveT (treeF (forestW (writesN l0 20)) ((writeP p1).name)) ((writeP p1).key)).steps.length sc165), (.slice ka166 (proveT (treeF (forestW (writesN l0 20)) ((writeP p1).name)) ((writeP p1).key)).pair.1.length kc167), (.slice va168 (proveT (treeF (forestW (writesN l0 20)) ((writeP p1).name)) ((writeP p1).key)).pair.2.length vc169)]) (ex_load rfl (loadN (cs := [(.bool (proveT (treeF (forestW (writesN l0 20)) ((writeP p1).name)) ((writeP p1).key)).empty), (.slice sa164 (proveT (treeF (forestW (writesN l0 20)) ((writeP p1).name)) ((writeP p1).key)).steps.length sc165), (.slice ka166 (proveT (treeF (forestW (writesN l0 20)) ((writeP p1).name)) ((writeP p1).key)).pair.1.length kc167), (.slice va168 (proveT (treeF (forestW (writesN l0 20)) ((writeP p1).name)) ((writeP p1).key)).pair.2.length vc169)]) Tryd.underlying49 rfl (size_49) (St.range S182 (i := 0) rfl 0 [(.bool (proveT (treeF (forestW (writesN l0 20)) ((writeP p1).name)) ((writeP p1).key)).empty), (.slice sa164 (proveT (treeF (forestW (writesN l0 20)) ((writeP p1).name)) ((writeP p1).key)).steps.length sc165), (.slice ka166 (proveT (treeF (forestW (writesN l0 20)) ((writeP p1).name)) ((writeP p1).key)).pair.1.length kc167), (.slice va168 (proveT (treeF (forestW (writesN l0 20)) ((writeP p1).name)) ((writeP p1).key)).pair.2.length vc169)] (sub_range 0 rfl)))) ?_
 simp only [pS, pN, pA, pC, pZ]
 refine stGives S182 rfl (ex_fn (vs := #[(.slice xa146 (rootF (forestW (writesN l0 20))).length xc147), (.slice xa123 (writeP p1).name.length xc124), (.slice xa125 (writeP p1).key.length xc126), (.agg #[(.bool (proveT (rootsF (forestW (writesN l0 20))) ((writeP p1).name)).empty), (.slice sa155 (proveT (rootsF (forestW (writesN l0 20))) ((writeP p1).name)).steps.length sc156), (.slice ka157 (proveT (rootsF (forestW (writesN l0 20))) ((writeP p1).name)).pair.1.length kc158), (.slice va159 (proveT (rootsF (forestW (writesN l0 20))) ((writeP p1).name)).pair.2.length vc160)]), (.agg #[(.bool (proveT (treeF (forestW (writesN l0 20)) ((writeP p1).name)) ((writeP p1).key)).empty), (.slice sa164 (proveT (treeF (forestW (writesN l0 20)) ((writeP p1).name)) ((writeP p1).key)).steps.length sc165), (.slice ka166 (proveT (treeF (forestW (writesN l0 20)) ((writeP p1).name)) ((writeP p1).key)).pair.1.length kc167), (.slice va168 (proveT (treeF (forestW (writesN l0 20)) ((writeP p1).name)) ((writeP p1).key)).pair.2.length vc169)])]) (map5 rfl rfl rfl rfl rfl) rfl (ent_22 _ _)) (forestVerifyT_spec _ _ _ _ _ _ _ (forestW (writesN l0 20)) ((writeP p1).name) ((writeP p1).key) (t := (treeF (forestW (writesN l0 20)) ((writeP p1).name))) (S182).sat (hT.at S182.gr.below) (r145.mono le152) (r129.mono (le141.trans le152)) (r130.mono (le141.trans le152)) ⟨_, _, _, _, _, _, rfl, r161, r162, r163⟩ ⟨_, _, _, _, _, _, rfl, r170, r171, r172⟩ okf (writeP_ok p1).name ⟨(writeP_ok p1).key1, (writeP_ok p1).key2⟩ rfl) ?_
 intro v189 w184 F186 S185 le187 R188
 obtain ⟨_, rfl, a190, c191, rfl, r192⟩ := R188
 have r192 : Bs _ (.slice a190 ((getF (forestW (writesN l0 20)) (writeP p1).name (writeP p1).key).getD []).length c191) ((getF (forestW (writesN l0 20)) (writeP p1).name (writeP p1).key).getD []) := r192
 simp only [pS, pN, pA, pC, pZ]
 refine do_ rfl (.tuple #[(.agg #[(.bool (getF (forestW (writesN l0 20)) (writeP p1).name (writeP p1).key).isSome), (.slice a190 ((getF (forestW (writesN l0 20)) (writeP p1).name (writeP p1).key).getD []).length c191)]), (.int .i64 0)]) (ex_move _) ?_
 simp only [pS, pN, pA, pC, pZ]
 refine do_ rfl (.agg #[(.bool (getF (forestW (writesN l0 20)) (writeP p1).name (writeP p1).key).isSome), (.slice a190 ((getF (forestW (writesN l0 20)) (writeP p1).name (writeP p1).key).getD []).length c191)]) (ex_extract rfl rfl) ?_
 simp only [pS, pN, pA, pC, pZ]
 refine do_ rfl (.int .i64 0) (ex_extract rfl rfl) ?_
 simp only [pS, pN, pA, pC, pZ]
 refine stNew S185 (v := fun n => .pointer (some ⟨n, 0, none⟩)) rfl (ex_alloc (zero_53 _)) (fun n193 w194 S195 => ?_)
 simp only [pS, pN, pA, pC, pZ]
 have S195 : St W (whole W) w194 F186 [⟨n193, [(.bool false), (.slice none 0 0)], 53⟩, ⟨n176, [(.bool (proveT (treeF (forestW (writesN l0 20)) ((writeP p1).name)) ((writeP p1).key)).empty), (.slice sa164 (proveT (treeF (forestW (writesN l0 20)) ((writeP p1).name)) ((writeP p1).key)).steps.length sc165), (.slice ka166 (proveT (treeF (forestW (writesN l0 20)) ((writeP p1).name)) ((writeP p1).key)).pair.1.length kc167), (.slice va168 (proveT (treeF (forestW (writesN l0 20)) ((writeP p1).name)) ((writeP p1).key)).pair.2.length vc169)], 49⟩, ⟨n173, [(.bool (proveT (rootsF (forestW (writesN l0 20))) ((writeP p1).name)).empty), (.slice sa155 (proveT (rootsF (forestW (writesN l0 20))) ((writeP p1).name)).steps.length sc156), (.slice ka157 (proveT (rootsF (forestW (writesN l0 20))) ((writeP p1).name)).pair.1.length kc158), (.slice va159 (proveT (rootsF (forestW (writesN l0 20))) ((writeP p1).name)).pair.2.length vc160)], 49⟩, ⟨n132, [(.slice xa123 (writeP p1).name.length xc124), (.slice xa125 (writeP p1).key.length xc126), (.bool (writeP p1).gone), (.slice xa127 (writeP p1).value.length xc128)], 36⟩, ⟨n102, [(.slice a10 p1.name.length c10), (.slice a11 p1.key.length c11), (.slice a12 p1.value.length c12), (.bool p1.gone)], 45⟩] [] := S195
 refine stStore (i := 0) (v := (.agg #[(.bool (getF (forestW (writesN l0 20)) (writeP p1).name (writeP p1).key).isSome), (.slice a190 ((getF (forestW (writesN l0 20)) (writeP p1).name (writeP p1).key).getD []).length c191)])) S195 rfl rfl rfl rfl (size_53) (allc2 rfl rfl) (Nat.le_of_ble_eq_true rfl) (fun w196 S197 => ?_)
 simp only [pS, pN, pA, pC, pZ]
 have S197 : St W (whole W) w196 F186 [⟨n193, [(.bool (getF (forestW (writesN l0 20)) (writeP p1).name (writeP p1).key).isSome), (.slice a190 ((getF (forestW (writesN l0 20)) (writeP p1).name (writeP p1).key).getD []).length c191)], 53⟩, ⟨n176, [(.bool (proveT (treeF (forestW (writesN l0 20)) ((writeP p1).name)) ((writeP p1).key)).empty), (.slice sa164 (proveT (treeF (forestW (writesN l0 20)) ((writeP p1).name)) ((writeP p1).key)).steps.length sc165), (.slice ka166 (proveT (treeF (forestW (writesN l0 20)) ((writeP p1).name)) ((writeP p1).key)).pair.1.length kc167), (.slice va168 (proveT (treeF (forestW (writesN l0 20)) ((writeP p1).name)) ((writeP p1).key)).pair.2.length vc169)], 49⟩, ⟨n173, [(.bool (proveT (rootsF (forestW (writesN l0 20))) ((writeP p1).name)).empty), (.slice sa155 (proveT (rootsF (forestW (writesN l0 20))) ((writeP p1).name)).steps.length sc156), (.slice ka157 (proveT (rootsF (forestW (writesN l0 20))) ((writeP p1).name)).pair.1.length kc158), (.slice va159 (proveT (rootsF (forestW (writesN l0 20))) ((writeP p1).name)).pair.2.length vc160)], 49⟩, ⟨n132, [(.slice xa123 (writeP p1).name.length xc124), (.slice xa125 (writeP p1).key.length xc126), (.bool (writeP p1).gone), (.slice xa127 (writeP p1).value.length xc128)], 36⟩, ⟨n102, [(.slice a10 p1.name.length c10), (.slice a11 p1.key.length c11), (.slice a12 p1.value.length c12), (.bool p1.gone)], 45⟩] [] := S197
 refine do_ rfl (.int .i64 0) (ex_assign _) ?_
 simp only [pS, pN, pA, pC, pZ]
 refine wl_nil (hK183 _ _ ?_)
 refine wp_seq_k (fun K198 hK198 => region_wl ?_)
 refine do_ rfl (.slice a112 (forestW (writesN l0 20)).length c113) (ex_move _) ?_
 simp only [pS, pN, pA, pC, pZ]
 refine do_ rfl (.pointer (some ⟨n132, 0, none⟩)) (ex_field (q := ⟨n132, 0, none⟩) rfl (fa_36_0 _ _)) ?_
 simp only [pS, pN, pA, pC, pZ]
 refine do_ rfl (.slice xa123 (writeP p1).name.length xc124) (ex_load rfl (load1 (nagg_23 _) (St.cell S197 (i := 3) rfl rfl))) ?_
 simp only [pS, pN, pA, pC, pZ]
 refine do_ rfl (.pointer (some ⟨n132, 1, none⟩)) (ex_field (q := ⟨n132, 1, none⟩) rfl (fa_36_1 _ _)) ?_
 simp only [pS, pN, pA, pC, pZ]
 refine do_ rfl (.slice xa125 (writeP p1).key.length xc126) (ex_load rfl (load1 (nagg_23 _) (St.cell S197 (i := 3) rfl rfl))) ?_
 simp only [pS, pN, pA, pC, pZ]
 refine stGives S197 rfl (ex_fn (vs := #[(.slice a112 (forestW (writesN l0 20)).length c113), (.slice xa123 (writeP p1).name.length xc124), (.slice xa125 (writeP p1).key.length xc126)]) (map3 rfl rfl rfl) rfl (ent_23 _ _)) (getF_spec _ _ _ _ _ (forestW (writesN l0 20)) ((writeP p1).name) ((writeP p1).key) (S197).sat (R110.mono (((le120.trans le141).trans le152).trans le187)) (r129.mono ((le141.trans le152).trans le187)) (r130.mono ((le141.trans le152).trans le187)) okf (WrOk.name (writeP_ok p1)) ⟨WrOk.key1 (writeP_ok p1), WrOk.key2 (writeP_ok p1)⟩) ?_
 intro v204 w199 F201 S200 le202 R203
 obtain ⟨_, rfl, a205, c206, rfl, r207⟩ := R203
 have r207 : Bs _ (.slice a205 ((getF (forestW (writesN l0 20)) ((writeP p1).name) ((writeP p1).key)).getD []).length c206) ((getF (forestW (writesN l0 20)) ((writeP p1).name) ((writeP p1).key)).getD []) := r207
 simp only [pS, pN, pA, pC, pZ]
 refine do_ rfl (.tuple #[(.agg #[(.bool (getF (forestW (writesN l0 20)) ((writeP p1).name) ((writeP p1).key)).isSome), (.slice a205 ((getF (forestW (writesN l0 20)) ((writeP p1).name) ((writeP p1).key)).getD []).length c206)]), (.int .i64 0)]) (ex_move _) ?_
 simp only [pS, pN, pA, pC, pZ]
 refine do_ rfl (.agg #[(.bool (getF (forestW (writesN l0 20)) ((writeP p1).name) ((writeP p1).key)).isSome), (.slice a205 ((getF (forestW (writesN l0 20)) ((writeP p1).name) ((writeP p1).key)).getD []).length c206)]) (ex_extract rfl rfl) ?_
 simp only [pS, pN, pA, pC, pZ]
 refine do_ rfl (.int .i64 0) (ex_extract rfl rfl) ?_
 simp only [pS, pN, pA, pC, pZ]
 refine stNew S200 (v := fun n => .pointer (some ⟨n, 0, none⟩)) rfl (ex_alloc (zero_53 _)) (fun n208 w209 S210 => ?_)
 simp only [pS, pN, pA, pC, pZ]
 have S210 : St W (whole W) w209 F201 [⟨n208, [(.bool false), (.slice none 0 0)], 53⟩, ⟨n193, [(.bool (getF (forestW (writesN l0 20)) (writeP p1).name (writeP p1).key).isSome), (.slice a190 ((getF (forestW (writesN l0 20)) (writeP p1).name (writeP p1).key).getD []).length c191)], 53⟩, ⟨n176, [(.bool (proveT (treeF (forestW (writesN l0 20)) ((writeP p1).name)) ((writeP p1).key)).empty), (.slice sa164 (proveT (treeF (forestW (writesN l0 20)) ((writeP p1).name)) ((writeP p1).key)).steps.length sc165), (.slice ka166 (proveT (treeF (forestW (writesN l0 20)) ((writeP p1).name)) ((writeP p1).key)).pair.1.length kc167), (.slice va168 (proveT (treeF (forestW (writesN l0 20)) ((writeP p1).name)) ((writeP p1).key)).pair.2.length vc169)], 49⟩, ⟨n173, [(.bool (proveT (rootsF (forestW (writesN l0 20))) ((writeP p1).name)).empty), (.slice sa155 (proveT (rootsF (forestW (writesN l0 20))) ((writeP p1).name)).steps.length sc156), (.slice ka157 (proveT (rootsF (forestW (writesN l0 20))) ((writeP p1).name)).pair.1.length kc158), (.slice va159 (proveT (rootsF (forestW (writesN l0 20))) ((writeP p1).name)).pair.2.length vc160)], 49⟩, ⟨n132, [(.slice xa123 (writeP p1).name.length xc124), (.slice xa125 (writeP p1).key.length xc126), (.bool (writeP p1).gone), (.slice xa127 (writeP p1).value.length xc128)], 36⟩, ⟨n102, [(.slice a10 p1.name.length c10), (.slice a11 p1.key.length c11), (.slice a12 p1.value.length c12), (.bool p1.gone)], 45⟩] [] := S210
 refine stStore (i := 0) (v := (.agg #[(.bool (getF (forestW (writesN l0 20)) ((writeP p1).name) ((writeP p1).key)).isSome), (.slice a205 ((getF (forestW (writesN l0 20)) ((writeP p1).name) ((writeP p1).key)).getD []).length c206)])) S210 rfl rfl rfl rfl (size_53) (allc2 rfl rfl) (Nat.le_of_ble_eq_true rfl) (fun w211 S212 => ?_)
 simp only [pS, pN, pA, pC, pZ]
 have S212 : St W (whole W) w211 F201 [⟨n208, [(.bool (getF (forestW (writesN l0 20)) ((writeP p1).name) ((writeP p1).key)).isSome), (.slice a205 ((getF (forestW (writesN l0 20)) ((writeP p1).name) ((writeP p1).key)).getD []).length c206)], 53⟩, ⟨n193, [(.bool (getF (forestW (writesN l0 20)) (writeP p1).name (writeP p1).key).isSome), (.slice a190 ((getF (forestW (writesN l0 20)) (writeP p1).name (writeP p1).key).getD []).length c191)], 53⟩, ⟨n176, [(.bool (proveT (treeF (forestW (writesN l0 20)) ((writeP p1).name)) ((writeP p1).key)).empty), (.slice sa164 (proveT (treeF (forestW (writesN l0 20)) ((writeP p1).name)) ((writeP p1).key)).steps.length sc165), (.slice ka166 (proveT (treeF (forestW (writesN l0 20)) ((writeP p1).name)) ((writeP p1).key)).pair.1.length kc167), (.slice va168 (proveT (treeF (forestW (writesN l0 20)) ((writeP p1).name)) ((writeP p1).key)).pair.2.length vc169)], 49⟩, ⟨n173, [(.bool (proveT (rootsF (forestW (writesN l0 20))) ((writeP p1).name)).empty), (.slice sa155 (proveT (rootsF (forestW (writesN l0 20))) ((writeP p1).name)).steps.length sc156), (.slice ka157 (proveT (rootsF (forestW (writesN l0 20))) ((writeP p1).name)).pair.1.length kc158), (.slice va159 (proveT (rootsF (forestW (writesN l0 20))) ((writeP p1).name)).pair.2.length vc160)], 49⟩, ⟨n132, [(.slice xa123 (writeP p1).name.length xc124), (.slice xa125 (writeP p1).key.length xc126), (.bool (writeP p1).gone), (.slice xa127 (writeP p1).value.length xc128)], 36⟩, ⟨n102, [(.slice a10 p1.name.length c10), (.slice a11 p1.key.length c11), (.slice a12 p1.value.length c12), (.bool p1.gone)], 45⟩] [] := S212
 refine do_ rfl (.int .i64 0) (ex_assign _) ?_
 simp only [pS, pN, pA, pC, pZ]
 refine wl_nil (hK198 _ _ ?_)
 refine wp_seq_k (fun K213 hK213 => region_wl ?_)
 refine do_ rfl (.int .i64 0) (ex_move _) ?_
 simp only [pS, pN, pA, pC, pZ]
 refine do_ rfl (.bool true) (ex_eql (b := true) rfl rfl (by decide)) ?_
 simp only [pS, pN, pA, pC, pZ]
 refine do_ rfl (.bool true) (ex_move _) ?_
 simp only [pS, pN, pA, pC, pZ]
 refine do_ rfl (.int .i64 0) (ex_move _) ?_
 simp only [pS, pN, pA, pC, pZ]
 refine do_ rfl (.bool true) (ex_eql (b := true) rfl rfl (by decide)) ?_
 simp only [pS, pN, pA, pC, pZ]
 refine do_ rfl (.bool true) (ex_pick (b := true) rfl) ?_
 simp only [pS, pN, pA, pC, pZ]
 refine do_ rfl (.bool true) (ex_move _) ?_
 simp only [pS, pN, pA, pC, pZ]
 refine do_ rfl (.int .i64 0) (ex_move _) ?_
 simp only [pS, pN, pA, pC, pZ]
 refine do_ rfl (.bool true) (ex_eql (b := true) rfl rfl (by decide)) ?_
 simp only [pS, pN, pA, pC, pZ]
 refine do_ rfl (.bool true) (ex_pick (b := true) rfl) ?_
 simp only [pS, pN, pA, pC, pZ]
 refine do_ rfl (.bool true) (ex_move _) ?_
 simp only [pS, pN, pA, pC, pZ]
 refine do_ rfl (.int .i64 0) (ex_move _) ?_
 simp only [pS, pN, pA, pC, pZ]
 refine do_ rfl (.bool true) (ex_eql (b := true) rfl rfl (by decide)) ?_
 simp only [pS, pN, pA, pC, pZ]
 refine do_ rfl (.bool true) (ex_pick (b := true) rfl) ?_
 simp only [pS, pN, pA, pC, pZ]
 refine do_ rfl (.bool true) (ex_move _) ?_
 simp only [pS, pN, pA, pC, pZ]
 refine do_ rfl (.pointer (some ⟨n193, 0, none⟩)) (ex_field (q := ⟨n193, 0, none⟩) rfl (fa_53_0 _ _)) ?_
 simp only [pS, pN, pA, pC, pZ]
 refine do_ rfl (.bool (getF (forestW (writesN l0 20)) (writeP p1).name (writeP p1).key).isSome) (ex_load rfl (load1 (nagg_4 _) (St.cell S212 (i := 1) rfl rfl))) ?_
 simp only [pS, pN, pA, pC, pZ]
 refine do_ rfl (.pointer (some ⟨n208, 0, none⟩)) (ex_field (q := ⟨n208, 0, none⟩) rfl (fa_53_0 _ _)) ?_
 simp only [pS, pN, pA, pC, pZ]
 refine do_ rfl (.bool (getF (forestW (writesN l0 20)) ((writeP p1).name) ((writeP p1).key)).isSome) (ex_load rfl (load1 (nagg_4 _) (St.cell S212 (i := 0) rfl rfl))) ?_
 simp only [pS, pN, pA, pC, pZ]
 refine do_ rfl (.bool true) (ex_eqlB Tryd.underlying4 rfl rfl (beq_self_eq_true _)) ?_
 simp only [pS, pN, pA, pC, pZ]
 refine do_ rfl (.bool true) (ex_pick (b := true) rfl) ?_
 simp only [pS, pN, pA, pC, pZ]
 refine do_ rfl (.bool true) (ex_move _) ?_
 simp only [pS, pN, pA, pC, pZ]
 refine do_ rfl (.pointer (some ⟨n193, 1, none⟩)) (ex_field (q := ⟨n193, 1, none⟩) rfl (fa_53_1 _ _)) ?_
 simp only [pS, pN, pA, pC, pZ]
 refine do_ rfl (.slice a190 ((getF (forestW (writesN l0 20)) (writeP p1).name (writeP p1).key).getD []).length c191) (ex_load rfl (load1 (nagg_23 _) (St.cell S212 (i := 1) rfl rfl))) ?_
 simp only [pS, pN, pA, pC, pZ]
 refine do_ rfl (.pointer (some ⟨n208, 1, none⟩)) (ex_field (q := ⟨n208, 1, none⟩) rfl (fa_53_1 _ _)) ?_
 simp only [pS, pN, pA, pC, pZ]
 refine do_ rfl (.slice a205 ((getF (forestW (writesN l0 20)) ((writeP p1).name) ((writeP p1).key)).getD []).length c206) (ex_load rfl (load1 (nagg_23 _) (St.cell S212 (i := 0) rfl rfl))) ?_
 simp only [pS, pN, pA, pC, pZ]
 refine stTells (v := (.bool true)) S212 rfl (ex_fn (vs := #[(.slice a190 ((getF (forestW (writesN l0 20)) (writeP p1).name (writeP p1).key).getD []).length c191), (.slice a205 ((getF (forestW (writesN l0 20)) ((writeP p1).name) ((writeP p1).key)).getD []).length c206)]) (map2 rfl rfl) rfl (ent_19 _ _)) (tells_bool (tells_same (same_spec _ _ _ _ ((getF (forestW (writesN l0 20)) (writeP p1).name (writeP p1).key).getD []) ((getF (forestW (writesN l0 20)) ((writeP p1).name) ((writeP p1).key)).getD []) (S212).sat (r192.mono le202) r207)) (beq_iff_eq.2 (rfl))) (fun w214 S215 => ?_)
 simp only [pS, pN, pA, pC, pZ]
 refine do_ rfl (.bool true) (ex_pick (b := true) rfl) ?_
 simp only [pS, pN, pA, pC, pZ]
 refine do_ rfl (.bool true) (ex_move _) ?_
 simp only [pS, pN, pA, pC, pZ]
 refine do_ rfl (.slice xa146 (rootF (forestW (writesN l0 20))).length xc147) (ex_move _) ?_
 simp only [pS, pN, pA, pC, pZ]
 refine do_ rfl (.int .i64 (((rootF (forestW (writesN l0 20))).length : Nat) : Int)) (ex_len Tryd.underlying23 rfl) ?_
 simp only [pS, pN, pA, pC, pZ]
 refine do_ rfl (.bool true) (ex_eql (m := (((rootF (forestW (writesN l0 20))).length : Nat) : Int)) (n := (32 : Int)) (b := true) rfl rfl (beq_iff_eq.2 (by rw [rootF_len]; rfl))) ?_
 simp only [pS, pN, pA, pC, pZ]
 refine do_ rfl (.bool true) (ex_pick (b := true) rfl) ?_
 simp only [pS, pN, pA, pC, pZ]
 refine do_ rfl (.bool true) (ex_assign _) ?_
 simp only [pS, pN, pA, pC, pZ]
 refine wl_nil (hK213 _ _ ?_)
 refine wp_ret ?_
 (try simp only [Exit.then, Exit.inBlock, ↓reduceIte, Nat.reduceEqDiff])
 refine bodyPost_ret (v := (.bool true)) ?_ rfl ?_
 ·exact res_t rfl rfl
 ·exact ⟨rfl, S215.gr.below⟩
end Go.Proofs.YtikklmjengkliaaDoor
