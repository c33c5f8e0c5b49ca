/- The walk of ForestApart -/
import Derived.Test.YtikklmjengkliaaDoorCB11
import Derived.Test.YtikklmjengkliaaDoorCB7
namespace Go.Proofs.YtikklmjengkliaaDoor
open Go.RowKit
set_option maxRecDepth 100000
set_option linter.unusedVariables false
set_option linter.unusedSimpArgs false
theorem forestProveT_spec (F : Fz) (w : World) (v u z : Value) (l : Forest) (n k : By) {t : List Pr} (hs : Sat w F) (hT : Tabs w) (hv : Tns F v l) (hn : Bs F u n) (hk : Bs F z k) (ok1 : ForestOk 60 l) (hnn : 1 ≤ n.length ∧ n.length ≤ 8) (hkk : 1 ≤ k.length ∧ k.length ≤ 16) (ht : treeF l n = t) :
    Calls Tryd.prog 21 #[v, u, z] w (Gives w F (PrvR (proveT (rootsF l) n) (proveT t k))) := ht ▸ forestProve_spec F w v u z l n k hs hT hv hn hk ok1 hnn hkk
theorem forestVerifyT_spec (F : Fz) (w : World) (z v u y1 y2 : Value) (l : Forest) (n k : By) {t : List Pr} (hs : Sat w F) (hT : Tabs w) (hr : Bs F z (rootF l)) (hn : Bs F v n) (hk : Bs F u k) (hv1 : PrfV F y1 (proveT (rootsF l) n)) (hv2 : PrfV F y2 (proveT t k)) (ok1 : ForestOk 60 l) (hnn : 1 ≤ n.length ∧ n.length ≤ 8) (hkk : 1 ≤ k.length ∧ k.length ≤ 16) (ht : treeF l n = t) :
    Calls Tryd.prog 22 #[z, v, u, y1, y2] w (Gives w F (GetR (getT t k) 0)) := by
  subst ht; exact forestVerify_spec F w z v u y1 y2 l n k hs hT hr hn hk hv1 hv2 ok1 hnn hkk
theorem tree_same {f g : Forest} {n : By} {m : Nat} (hf : ForestOk m f) (hg : ForestOk 60 g) (h : ∀ k, getF g n k = getF f n k) : treeF g n = treeF f n := tree_ext (treeF_ok hg n).rise (treeF_ok hf n).rise h
set_option maxHeartbeats 8000000 in
theorem forestApart_walk (W : World) (hT : Tabs W) (v0 : Value) (l0 : List Pl) (z0 : Pls (whole W) v0 l0) (p1 : Pl) (v10 : Value) (z10 : Bs (whole W) v10 p1.name) (v11 : Value) (z11 : Bs (whole W) v11 p1.key) (v12 : Value) (z12 : Bs (whole W) v12 p1.value) (p2 : Pl) (v20 : Value) (z20 : Bs (whole W) v20 p2.name) (v21 : Value) (z21 : Bs (whole W) v21 p2.key) (v22 : Value) (z22 : Bs (whole W) v22 p2.value) :
    Calls Tryd.prog 6 #[v0, .agg #[v10, v11, v12, .bool p1.gone], .agg #[v20, v21, v22, .bool p2.gone]] W (Tells W (.bool true)) := by
 obtain ⟨a0, c0, rfl, q0, q0'⟩ := Sl.shape z0
 obtain ⟨a10, c10, rfl, _⟩ := z10.shape
 obtain ⟨a11, c11, rfl, _⟩ := z11.shape
 obtain ⟨a12, c12, rfl, _⟩ := z12.shape
 obtain ⟨a20, c20, rfl, _⟩ := z20.shape
 obtain ⟨a21, c21, rfl, _⟩ := z21.shape
 obtain ⟨a22, c22, rfl, _⟩ := z22.shape
 have okf : ForestOk 60 (forestW (writesN l0 20)) := (forestW_ok (writesN_ok l0 20)).mono (by have := writesN_len l0 20; omega)
 have S := St.start (Sat.whole W)
 go_enter Tryd.func6, Tryd.ntmps6
 refine wp_seq_k (fun K101 hK101 => region_wl ?_)
 refine stNew S (v := fun n => .pointer (some ⟨n, 0, none⟩)) rfl (ex_box (v := (.agg #[(.slice a10 p1.name.length c10), (.slice a11 p1.key.length c11), (.slice a12 p1.value.length c12), (.bool p1.gone)])) rfl) (fun n102 w103 S104 => ?_)
 simp only [pS, pN, pA, pC, pZ]
 have S104 : St W (whole W) w103 (whole W) [⟨n102, [(.slice a10 p1.name.length c10), (.slice a11 p1.key.length c11), (.slice a12 p1.value.length c12), (.bool p1.gone)], 45⟩] [] := S104
 refine stNew S104 (v := fun n => .pointer (some ⟨n, 0, none⟩)) rfl (ex_box (v := (.agg #[(.slice a20 p2.name.length c20), (.slice a21 p2.key.length c21), (.slice a22 p2.value.length c22), (.bool p2.gone)])) rfl) (fun n105 w106 S107 => ?_)
 simp only [pS, pN, pA, pC, pZ]
 have S107 : St W (whole W) w106 (whole W) [⟨n105, [(.slice a20 p2.name.length c20), (.slice a21 p2.key.length c21), (.slice a22 p2.value.length c22), (.bool p2.gone)], 45⟩, ⟨n102, [(.slice a10 p1.name.length c10), (.slice a11 p1.key.length c11), (.slice a12 p1.value.length c12), (.bool p1.gone)], 45⟩] [] := S107
 refine do_ rfl (.bool false) (ex_assign _) ?_
 simp only [pS, pN, pA, pC, pZ]
 refine wl_nil (hK101 _ _ ?_)
 refine wp_seq_k (fun K108 hK108 => region_wl ?_)
 refine do_ rfl (.slice a0 l0.length c0) (ex_move _) ?_
 simp only [pS, pN, pA, pC, pZ]
 refine stGives S107 rfl (ex_fn (vs := #[(.slice a0 l0.length c0), (.int .i64 20)]) (map2 rfl rfl) rfl (ent_14 _ _)) (forest_spec _ _ _ l0 20 (S107).sat z0 (by omega)) ?_
 intro v114 w109 F111 S110 le112 R113
 obtain ⟨a115, c116, rfl, h117, h118⟩ := Sl.shape R113
 unfold maxLen at h118
 have R113 : Tns _ (.slice a115 (forestW (writesN l0 20)).length c116) (forestW (writesN l0 20)) := R113
 simp only [pS, pN, pA, pC, pZ]
 refine do_ rfl (.slice a115 (forestW (writesN l0 20)).length c116) (ex_assign _) ?_
 simp only [pS, pN, pA, pC, pZ]
 refine wl_nil (hK108 _ _ ?_)
 refine wp_seq_k (fun K119 hK119 => region_wl ?_)
 refine do_ rfl (.agg #[(.slice a10 p1.name.length c10), (.slice a11 p1.key.length c11), (.slice a12 p1.value.length c12), (.bool p1.gone)]) (ex_load rfl (loadN (cs := [(.slice a10 p1.name.length c10), (.slice a11 p1.key.length c11), (.slice a12 p1.value.length c12), (.bool p1.gone)]) Tryd.underlying45 rfl (size_45) (St.range S110 (i := 1) rfl 0 [(.slice a10 p1.name.length c10), (.slice a11 p1.key.length c11), (.slice a12 p1.value.length c12), (.bool p1.gone)] (sub_range 0 rfl)))) ?_
 simp only [pS, pN, pA, pC, pZ]
 refine stGives S110 rfl (ex_fn (vs := #[(.agg #[(.slice a10 p1.name.length c10), (.slice a11 p1.key.length c11), (.slice a12 p1.value.length c12), (.bool p1.gone)])]) (map1 rfl) rfl (ent_20 _ _)) (keepWrite_spec _ _ _ p1 (S110).sat ⟨_, _, _, _, _, _, rfl, (z10.mono le112), (z11.mono le112), (z12.mono le112)⟩) ?_
 intro v125 w120 F122 S121 le123 R124
 obtain ⟨xa126, xc127, xa128, xc129, xa130, xc131, rfl, r132, r133, r134⟩ := R124
 simp only [pS, pN, pA, pC, pZ]
 refine stNew S121 (v := fun n => .pointer (some ⟨n, 0, none⟩)) rfl (ex_alloc (zero_36 _)) (fun n135 w136 S137 => ?_)
 simp only [pS, pN, pA, pC, pZ]
 have S137 : St W (whole W) w136 F122 [⟨n135, [(.slice none 0 0), (.slice none 0 0), (.bool false), (.slice none 0 0)], 36⟩, ⟨n105, [(.slice a20 p2.name.length c20), (.slice a21 p2.key.length c21), (.slice a22 p2.value.length c22), (.bool p2.gone)], 45⟩, ⟨n102, [(.slice a10 p1.name.length c10), (.slice a11 p1.key.length c11), (.slice a12 p1.value.length c12), (.bool p1.gone)], 45⟩] [] := S137
 refine stStore (i := 0) (v := (.agg #[(.slice xa126 (writeP p1).name.length xc127), (.slice xa128 (writeP p1).key.length xc129), (.bool (writeP p1).gone), (.slice xa130 (writeP p1).value.length xc131)])) S137 rfl rfl rfl rfl (size_36) (allc4 rfl rfl rfl rfl) (Nat.le_of_ble_eq_true rfl) (fun w138 S139 => ?_)
 simp only [pS, pN, pA, pC, pZ]
 have S139 : St W (whole W) w138 F122 [⟨n135, [(.slice xa126 (writeP p1).name.length xc127), (.slice xa128 (writeP p1).key.length xc129), (.bool (writeP p1).gone), (.slice xa130 (writeP p1).value.length xc131)], 36⟩, ⟨n105, [(.slice a20 p2.name.length c20), (.slice a21 p2.key.length c21), (.slice a22 p2.value.length c22), (.bool p2.gone)], 45⟩, ⟨n102, [(.slice a10 p1.name.length c10), (.slice a11 p1.key.length c11), (.slice a12 p1.value.length c12), (.bool p1.gone)], 45⟩] [] := S139
 refine wl_nil (hK119 _ _ ?_)
 refine wp_seq_k (fun K140 hK140 => region_wl ?_)
 refine do_ rfl (.agg #[(.slice a20 p2.name.length c20), (.slice a21 p2.key.length c21), (.slice a22 p2.value.length c22), (.bool p2.gone)]) (ex_load rfl (loadN (cs := [(.slice a20 p2.name.length c20), (.slice a21 p2.key.length c21), (.slice a22 p2.value.length c22), (.bool p2.gone)]) Tryd.underlying45 rfl (size_45) (St.range S139 (i := 1) rfl 0 [(.slice a20 p2.name.length c20), (.slice a21 p2.key.length c21), (.slice a22 p2.value.length c22), (.bool p2.gone)] (sub_range 0 rfl)))) ?_
 simp only [pS, pN, pA, pC, pZ]
 refine stGives S139 rfl (ex_fn (vs := #[(.agg #[(.slice a20 p2.name.length c20), (.slice a21 p2.key.length c21), (.slice a22 p2.value.length c22), (.bool p2.gone)])]) (map1 rfl) rfl (ent_20 _ _)) (keepWrite_spec _ _ _ p2 (S139).sat ⟨_, _, _, _, _, _, rfl, (z20.mono (le112.trans le123)), (z21.mono (le112.trans le123)), (z22.mono (le112.trans le123))⟩) ?_
 intro v146 w141 F143 S142 le144 R145
 obtain ⟨xa147, xc148, xa149, xc150, xa151, xc152, rfl, r153, r154, r155⟩ := R145
 simp only [pS, pN, pA, pC, pZ]
 refine stNew S142 (v := fun n => .pointer (some ⟨n, 0, none⟩)) rfl (ex_alloc (zero_36 _)) (fun n156 w157 S158 => ?_)
 simp only [pS, pN, pA, pC, pZ]
 have S158 : St W (whole W) w157 F143 [⟨n156, [(.slice none 0 0), (.slice none 0 0), (.bool false), (.slice none 0 0)], 36⟩, ⟨n135, [(.slice xa126 (writeP p1).name.length xc127), (.slice xa128 (writeP p1).key.length xc129), (.bool (writeP p1).gone), (.slice xa130 (writeP p1).value.length xc131)], 36⟩, ⟨n105, [(.slice a20 p2.name.length c20), (.slice a21 p2.key.length c21), (.slice a22 p2.value.length c22), (.bool p2.gone)], 45⟩, ⟨n102, [(.slice a10 p1.name.length c10), (.slice a11 p1.key.length c11), (.slice a12 p1.value.length c12), (.bool p1.gone)], 45⟩] [] := S158
 refine stStore (i := 0) (v := (.agg #[(.slice xa147 (writeP p2).name.length xc148), (.slice xa149 (writeP p2).key.length xc150), (.bool (writeP p2).gone), (.slice xa151 (writeP p2).value.length xc152)])) S158 rfl rfl rfl rfl (size_36) (allc4 rfl rfl rfl rfl) (Nat.le_of_ble_eq_true rfl) (fun w159 S160 => ?_)
 simp only [pS, pN, pA, pC, pZ]
 have S160 : St W (whole W) w159 F143 [⟨n156, [(.slice xa147 (writeP p2).name.length xc148), (.slice xa149 (writeP p2).key.length xc150), (.bool (writeP p2).gone), (.slice xa151 (writeP p2).value.length xc152)], 36⟩, ⟨n135, [(.slice xa126 (writeP p1).name.length xc127), (.slice xa128 (writeP p1).key.length xc129), (.bool (writeP p1).gone), (.slice xa130 (writeP p1).value.length xc131)], 36⟩, ⟨n105, [(.slice a20 p2.name.length c20), (.slice a21 p2.key.length c21), (.slice a22 p2.value.length c22), (.bool p2.gone)], 45⟩, ⟨n102, [(.slice a10 p1.name.length c10), (.slice a11 p1.key.length c11), (.slice a12 p1.value.length c12), (.bool p1.gone)], 45⟩] [] := S160
 refine wl_nil (hK140 _ _ ?_)
 refine wp_seq_k (fun K161 hK161 => ?_)
 cases hwf : writeF (forestW (writesN l0 20)) (writeP p2) with
 | none =>
  have hae := applyE_one (l := (forestW (writesN l0 20))) (writeP_ok p2)
  rw [hwf] at hae
  refine region_wl ?_
  refine do_ rfl (.slice a115 (forestW (writesN l0 20)).length c116) (ex_move _) ?_
  simp only [pS, pN, pA, pC, pZ]
  refine do_ rfl (.agg #[(.slice xa147 (writeP p2).name.length xc148), (.slice xa149 (writeP p2).key.length xc150), (.bool (writeP p2).gone), (.slice xa151 (writeP p2).value.length xc152)]) (ex_load rfl (loadN (cs := [(.slice xa147 (writeP p2).name.length xc148), (.slice xa149 (writeP p2).key.length xc150), (.bool (writeP p2).gone), (.slice xa151 (writeP p2).value.length xc152)]) Tryd.underlying36 rfl (size_36) (St.range S160 (i := 0) rfl 0 [(.slice xa147 (writeP p2).name.length xc148), (.slice xa149 (writeP p2).key.length xc150), (.bool (writeP p2).gone), (.slice xa151 (writeP p2).value.length xc152)] (sub_range 0 rfl)))) ?_
  simp only [pS, pN, pA, pC, pZ]
  refine stNew S160 (v := fun n => .slice (some ⟨n, 0, none⟩) 1 1) rfl (ex_lit (ps := #[(0, (.agg #[(.slice xa147 (writeP p2).name.length xc148), (.slice xa149 (writeP p2).key.length xc150), (.bool (writeP p2).gone), (.slice xa151 (writeP p2).value.length xc152)]))]) (cells := #[(.slice xa147 (writeP p2).name.length xc148), (.slice xa149 (writeP p2).key.length xc150), (.bool (writeP p2).gone), (.slice xa151 (writeP p2).value.length xc152)]) (E := 36) (bmap1 rfl) (fun w => by kernel_rfl)) (fun n162 w163 S164 => ?_)
  simp only [pS, pN, pA, pC, pZ]
  have S164 : St W (whole W) w163 F143 [⟨n162, [(.slice xa147 (writeP p2).name.length xc148), (.slice xa149 (writeP p2).key.length xc150), (.bool (writeP p2).gone), (.slice xa151 (writeP p2).value.length xc152)], 36⟩, ⟨n156, [(.slice xa147 (writeP p2).name.length xc148), (.slice xa149 (writeP p2).key.length xc150), (.bool (writeP p2).gone), (.slice xa151 (writeP p2).value.length xc152)], 36⟩, ⟨n135, [(.slice xa126 (writeP p1).name.length xc127), (.slice xa128 (writeP p1).key.length xc129), (.bool (writeP p1).gone), (.slice xa130 (writeP p1).value.length xc131)], 36⟩, ⟨n105, [(.slice a20 p2.name.length c20), (.slice a21 p2.key.length c21), (.slice a22 p2.value.length c22), (.bool p2.gone)], 45⟩, ⟨n102, [(.slice a10 p1.name.length c10), (.slice a11 p1.key.length c11), (.slice a12 p1.value.length c12), (.bool p1.gone)], 45⟩] [] := S164
  obtain ⟨S165, le166, hc167⟩ := St.freezeBlk S164 (i := 0) rfl
  have r169 : Wrs _ (.slice (some ⟨n162, 0, none⟩) 1 1) [(writeP p2)] := sl_of_block (R := WrC) (l := [(writeP p2)]) (el := [[(.slice xa147 (writeP p2).name.length xc148), (.slice xa149 (writeP p2).key.length xc150), (.bool (writeP p2).gone), (.slice xa151 (writeP p2).value.length xc152)]]) hc167 rfl ⟨⟨_, _, _, _, rfl, (r153.mono le166), (r154.mono le166), rfl, (r155.mono le166)⟩, trivial⟩ (by simp) (by unfold maxLen; simp)
  generalize addF F143 w163 n162 = F168 at *
  have S165 : St W (whole W) w163 F168 [⟨n156, [(.slice xa147 (writeP p2).name.length xc148), (.slice xa149 (writeP p2).key.length xc150), (.bool (writeP p2).gone), (.slice xa151 (writeP p2).value.length xc152)], 36⟩, ⟨n135, [(.slice xa126 (writeP p1).name.length xc127), (.slice xa128 (writeP p1).key.length xc129), (.bool (writeP p1).gone), (.slice xa130 (writeP p1).value.length xc131)], 36⟩, ⟨n105, [(.slice a20 p2.name.length c20), (.slice a21 p2.key.length c21), (.slice a22 p2.value.length c22), (.bool p2.gone)], 45⟩, ⟨n102, [(.slice a10 p1.name.length c10), (.slice a11 p1.key.length c11), (.slice a12 p1.value.length c12), (.bool p1.gone)], 45⟩] [] := S165
  refine stGives S165 rfl (ex_fn (vs := #[(.slice a115 (forestW (writesN l0 20)).length c116), (.slice (some ⟨n162, 0, none⟩) 1 1)]) (map2 rfl rfl) rfl (ent_16 _ _)) (apply_is (S165).sat (R113.mono ((le123.trans le144).trans le166)) r169 okf (by simpa using writeP_ok p2) hae) ?_
  intro v175 w170 F172 S171 le173 R174
  obtain ⟨_, rfl, r178⟩ := R174
  obtain ⟨a176, c177, rfl, h179, h180⟩ := Sl.shape r178
  unfold maxLen at h180
  simp only [pS, pN, pA, pC, pZ]
  refine do_ rfl (.tuple #[(.slice a176 ([] : Forest).length c177), (.int .i64 11)]) (ex_move _) ?_
  simp only [pS, pN, pA, pC, pZ]
  refine do_ rfl (.slice a176 ([] : Forest).length c177) (ex_extract rfl rfl) ?_
  simp only [pS, pN, pA, pC, pZ]
  refine do_ rfl (.int .i64 11) (ex_extract rfl rfl) ?_
  simp only [pS, pN, pA, pC, pZ]
  refine do_ rfl (.slice a176 ([] : Forest).length c177) (ex_assign _) ?_
  simp only [pS, pN, pA, pC, pZ]
  refine do_ rfl (.int .i64 11) (ex_assign _) ?_
  simp only [pS, pN, pA, pC, pZ]
  refine wl_nil (hK161 _ _ ?_)
  refine wp_seq_k (fun K181 hK181 => ?_)
  refine wp_seq_k (fun K182 hK182 => region_wl ?_)
  refine do_ rfl (.int .i64 11) (ex_move _) ?_
  simp only [pS, pN, pA, pC, pZ]
  refine do_ rfl (.bool true) (ex_neq (b := true) rfl rfl (by decide)) ?_
  simp only [pS, pN, pA, pC, pZ]
  refine do_ rfl (.bool true) (ex_move _) ?_
  simp only [pS, pN, pA, pC, pZ]
  refine doN (wanted_no rfl rfl rfl (c := true) rfl (by decide)) ?_
  simp only [pS, pN, pA, pC, pZ]
  refine doN (wanted_no rfl rfl rfl (c := true) rfl (by decide)) ?_
  simp only [pS, pN, pA, pC, pZ]
  refine doN (wanted_no rfl rfl rfl (c := true) rfl (by decide)) ?_
  simp only [pS, pN, pA, pC, pZ]
  refine doN (wanted_no rfl rfl rfl (c := true) rfl (by decide)) ?_
  simp only [pS, pN, pA, pC, pZ]
  refine doN (wanted_no rfl rfl rfl (c := true) rfl (by decide)) ?_
  simp only [pS, pN, pA, pC, pZ]
  refine do_ rfl (.bool true) (ex_pick (b := true) rfl) ?_
  simp only [pS, pN, pA, pC, pZ]
  refine wl_nil (hK182 _ _ ?_)
  refine wp_cond_true rfl ?_
  refine wp_seq_k (fun K183 hK183 => region_wl ?_)
  refine do_ rfl (.int .i64 11) (ex_move _) ?_
  simp only [pS, pN, pA, pC, pZ]
  refine do_ rfl (.bool false) (ex_eql (b := false) rfl rfl (by decide)) ?_
  simp only [pS, pN, pA, pC, pZ]
  refine do_ rfl (.bool false) (ex_move _) ?_
  simp only [pS, pN, pA, pC, pZ]
  refine do_ rfl (.int .i64 11) (ex_move _) ?_
  simp only [pS, pN, pA, pC, pZ]
  refine do_ rfl (.bool true) (ex_eql (b := true) rfl rfl (by decide)) ?_
  simp only [pS, pN, pA, pC, pZ]
  refine do_ rfl (.bool true) (ex_pick (b := false) rfl) ?_
  simp only [pS, pN, pA, pC, pZ]
  refine do_ rfl (.bool true) (ex_assign _) ?_
  simp only [pS, pN, pA, pC, pZ]
  refine wl_nil (hK183 _ _ ?_)
  refine wp_ret ?_
  (try simp only [Exit.then, Exit.inBlock, ↓reduceIte, Nat.reduceEqDiff])
  refine bodyPost_ret (v := (.bool true)) ?_ rfl ?_
  ·exact res_t rfl rfl
  ·exact ⟨rfl, S171.gr.below⟩
 | some g =>
  have hae := applyE_one (l := (forestW (writesN l0 20))) (writeP_ok p2)
  rw [hwf] at hae
  have okg := writeF_ok60 okf (writeP_ok p2) hwf
  have hget := getF_writeF okf hwf
  refine region_wl ?_
  refine do_ rfl (.slice a115 (forestW (writesN l0 20)).length c116) (ex_move _) ?_
  simp only [pS, pN, pA, pC, pZ]
  refine do_ rfl (.agg #[(.slice xa147 (writeP p2).name.length xc148), (.slice xa149 (writeP p2).key.length xc150), (.bool (writeP p2).gone), (.slice xa151 (writeP p2).value.length xc152)]) (ex_load rfl (loadN (cs := [(.slice xa147 (writeP p2).name.length xc148), (.slice xa149 (writeP p2).key.length xc150), (.bool (writeP p2).gone), (.slice xa151 (writeP p2).value.length xc152)]) Tryd.underlying36 rfl (size_36) (St.range S160 (i := 0) rfl 0 [(.slice xa147 (writeP p2).name.length xc148), (.slice xa149 (writeP p2).key.length xc150), (.bool (writeP p2).gone), (.slice xa151 (writeP p2).value.length xc152)] (sub_range 0 rfl)))) ?_
  simp only [pS, pN, pA, pC, pZ]
  refine stNew S160 (v := fun n => .slice (some ⟨n, 0, none⟩) 1 1) rfl (ex_lit (ps := #[(0, (.agg #[(.slice xa147 (writeP p2).name.length xc148), (.slice xa149 (writeP p2).key.length xc150), (.bool (writeP p2).gone), (.slice xa151 (writeP p2).value.length xc152)]))]) (cells := #[(.slice xa147 (writeP p2).name.length xc148), (.slice xa149 (writeP p2).key.length xc150), (.bool (writeP p2).gone), (.slice xa151 (writeP p2).value.length xc152)]) (E := 36) (bmap1 rfl) (fun w => by kernel_rfl)) (fun n184 w185 S186 => ?_)
  simp only [pS, pN, pA, pC, pZ]
  have S186 : St W (whole W) w185 F143 [⟨n184, [(.slice xa147 (writeP p2).name.length xc148), (.slice xa149 (writeP p2).key.length xc150), (.bool (writeP p2).gone), (.slice xa151 (writeP p2).value.length xc152)], 36⟩, ⟨n156, [(.slice xa147 (writeP p2).name.length xc148), (.slice xa149 (writeP p2).key.length xc150), (.bool (writeP p2).gone), (.slice xa151 (writeP p2).value.length xc152)], 36⟩, ⟨n135, [(.slice xa126 (writeP p1).name.length xc127), (.slice xa128 (writeP p1).key.length xc129), (.bool (writeP p1).gone), (.slice xa130 (writeP p1).value.length xc131)], 36⟩, ⟨n105, [(.slice a20 p2.name.length c20), (.slice a21 p2.key.length c21), (.slice a22 p2.value.length c22), (.bool p2.gone)], 45⟩, ⟨n102, [(.slice a10 p1.name.length c10), (.slice a11 p1.key.length c11), (.slice a12 p1.value.length c12), (.bool p1.gone)], 45⟩] [] := S186
  obtain ⟨S187, le188, hc189⟩ := St.freezeBlk S186 (i := 0) rfl
  have r191 : Wrs _ (.slice (some ⟨n184, 0, none⟩) 1 1) [(writeP p2)] := sl_of_block (R := WrC) (l := [(writeP p2)]) (el := [[(.slice xa147 (writeP p2).name.length xc148), (.slice xa149 (writeP p2).key.length xc150), (.bool (writeP p2).gone), (.slice xa151 (writeP p2).value.length xc152)]]) hc189 rfl ⟨⟨_, _, _, _, rfl, (r153.mono le188), (r154.mono le188), rfl, (r155.mono le188)⟩, trivial⟩ (by simp) (by unfold maxLen; simp)
  generalize addF F143 w185 n184 = F190 at *
  have S187 : St W (whole W) w185 F190 [⟨n156, [(.slice xa147 (writeP p2).name.length xc148), (.slice xa149 (writeP p2).key.length xc150), (.bool (writeP p2).gone), (.slice xa151 (writeP p2).value.length xc152)], 36⟩, ⟨n135, [(.slice xa126 (writeP p1).name.length xc127), (.slice xa128 (writeP p1).key.length xc129), (.bool (writeP p1).gone), (.slice xa130 (writeP p1).value.length xc131)], 36⟩, ⟨n105, [(.slice a20 p2.name.length c20), (.slice a21 p2.key.length c21), (.slice a22 p2.value.length c22), (.bool p2.gone)], 45⟩, ⟨n102, [(.slice a10 p1.name.length c10), (.slice a11 p1.key.length c11), (.slice a12 p1.value.length c12), (.bool p1.gone)], 45⟩] [] := S187
  refine stGives S187 rfl (ex_fn (vs := #[(.slice a115 (forestW (writesN l0 20)).length c116), (.slice (some ⟨n184, 0, none⟩) 1 1)]) (map2 rfl rfl) rfl (ent_16 _ _)) (apply_is (S187).sat (R113.mono ((le123.trans le144).trans le188)) r191 okf (by simpa using writeP_ok p2) hae) ?_
  intro v197 w192 F194 S193 le195 R196
  obtain ⟨_, rfl, r200⟩ := R196
  obtain ⟨a198, c199, rfl, h201, h202⟩ := Sl.shape r200
  unfold maxLen at h202
  have h201 : g.length ≤ c199 := h201
  have r200 : Tns _ (.slice a198 g.length c199) g := r200
  simp only [pS, pN, pA, pC, pZ]
  refine do_ rfl (.tuple #[(.slice a198 g.length c199), (.int .i64 0)]) (ex_move _) ?_
  simp only [pS, pN, pA, pC, pZ]
  refine do_ rfl (.slice a198 g.length c199) (ex_extract rfl rfl) ?_
  simp only [pS, pN, pA, pC, pZ]
  refine do_ rfl (.int .i64 0) (ex_extract rfl rfl) ?_
  simp only [pS, pN, pA, pC, pZ]
  refine do_ rfl (.slice a198 g.length c199) (ex_assign _) ?_
  simp only [pS, pN, pA, pC, pZ]
  refine do_ rfl (.int .i64 0) (ex_assign _) ?_
  simp only [pS, pN, pA, pC, pZ]
  refine wl_nil (hK161 _ _ ?_)
  refine wp_seq_k (fun K203 hK203 => ?_)
  refine wp_seq_k (fun K204 hK204 => ?_)
  by_cases hn : (writeP p1).name = (writeP p2).name
  ·refine region_wl ?_
   refine do_ rfl (.int .i64 0) (ex_move _) ?_
   simp only [pS, pN, pA, pC, pZ]
   refine do_ rfl (.bool false) (ex_neq (b := false) rfl rfl (by decide)) ?_
   simp only [pS, pN, pA, pC, pZ]
   refine do_ rfl (.bool false) (ex_move _) ?_
   simp only [pS, pN, pA, pC, pZ]
   refine do_ rfl (.pointer (some ⟨n135, 0, none⟩)) (ex_field (q := ⟨n135, 0, none⟩) rfl (fa_36_0 _ _)) ?_
   simp only [pS, pN, pA, pC, pZ]
   refine do_ rfl (.slice xa126 (writeP p1).name.length xc127) (ex_load rfl (load1 (nagg_23 _) (St.cell S193 (i := 1) rfl rfl))) ?_
   simp only [pS, pN, pA, pC, pZ]
   refine do_ rfl (.pointer (some ⟨n156, 0, none⟩)) (ex_field (q := ⟨n156, 0, none⟩) rfl (fa_36_0 _ _)) ?_
   simp only [pS, pN, pA, pC, pZ]
   refine do_ rfl (.slice xa147 (writeP p2).name.length xc148) (ex_load rfl (load1 (nagg_23 _) (St.cell S193 (i := 0) rfl rfl))) ?_
   simp only [pS, pN, pA, pC, pZ]
   refine stTells (v := (.bool true)) S193 rfl (ex_fn (vs := #[(.slice xa126 (writeP p1).name.length xc127), (.slice xa147 (writeP p2).name.length xc148)]) (map2 rfl rfl) rfl (ent_19 _ _)) (tells_bool (tells_same (same_spec _ _ _ _ ((writeP p1).name) ((writeP p2).name) (S193).sat (r132.mono ((le144.trans le188).trans le195)) (r153.mono (le188.trans le195)))) (beq_iff_eq.2 (hn))) (fun w205 S206 => ?_)
   simp only [pS, pN, pA, pC, pZ]
   refine do_ rfl (.bool true) (ex_pick (b := false) rfl) ?_
   simp only [pS, pN, pA, pC, pZ]
   refine wl_nil (hK204 _ _ ?_)
   refine wp_cond_true rfl ?_
   refine wp_seq_k (fun K207 hK207 => region_wl ?_)
   refine do_ rfl (.int .i64 0) (ex_move _) ?_
   simp only [pS, pN, pA, pC, pZ]
   refine do_ rfl (.bool true) (ex_eql (b := true) rfl rfl (by decide)) ?_
   simp only [pS, pN, pA, pC, pZ]
   refine do_ rfl (.bool true) (ex_move _) ?_
   simp only [pS, pN, pA, pC, pZ]
   refine doN (wanted_no rfl rfl rfl (c := true) rfl (by decide)) ?_
   simp only [pS, pN, pA, pC, pZ]
   refine doN (wanted_no rfl rfl rfl (c := true) rfl (by decide)) ?_
   simp only [pS, pN, pA, pC, pZ]
   refine do_ rfl (.bool true) (ex_pick (b := true) rfl) ?_
   simp only [pS, pN, pA, pC, pZ]
   refine do_ rfl (.bool true) (ex_assign _) ?_
   simp only [pS, pN, pA, pC, pZ]
   refine wl_nil (hK207 _ _ ?_)
   refine wp_ret ?_
   (try simp only [Exit.then, Exit.inBlock, ↓reduceIte, Nat.reduceEqDiff])
   refine bodyPost_ret (v := (.bool true)) ?_ rfl ?_
   ·exact res_t rfl rfl
   ·exact ⟨rfl, S206.gr.below⟩
  ·have hte : treeF g (writeP p1).name = (treeF (forestW (writesN l0 20)) (writeP p1).name) := tree_same okf okg (fun k => by rw [hget, if_neg (fun h => hn h.1.symm)])
   refine region_wl ?_
   refine do_ rfl (.int .i64 0) (ex_move _) ?_
   simp only [pS, pN, pA, pC, pZ]
   refine do_ rfl (.bool false) (ex_neq (b := false) rfl rfl (by decide)) ?_
   simp only [pS, pN, pA, pC, pZ]
   refine do_ rfl (.bool false) (ex_move _) ?_
   simp only [pS, pN, pA, pC, pZ]
   refine do_ rfl (.pointer (some ⟨n135, 0, none⟩)) (ex_field (q := ⟨n135, 0, none⟩) rfl (fa_36_0 _ _)) ?_
   simp only [pS, pN, pA, pC, pZ]
   refine do_ rfl (.slice xa126 (writeP p1).name.length xc127) (ex_load rfl (load1 (nagg_23 _) (St.cell S193 (i := 1) rfl rfl))) ?_
   simp only [pS, pN, pA, pC, pZ]
   refine do_ rfl (.pointer (some ⟨n156, 0, none⟩)) (ex_field (q := ⟨n156, 0, none⟩) rfl (fa_36_0 _ _)) ?_
   simp only [pS, pN, pA, pC, pZ]
   refine do_ rfl (.slice xa147 (writeP p2).name.length xc148) (ex_load rfl (load1 (nagg_23 _) (St.cell S193 (i := 0) rfl rfl))) ?_
   simp only [pS, pN, pA, pC, pZ]
   refine stTells (v := (.bool false)) S193 rfl (ex_fn (vs := #[(.slice xa126 (writeP p1).name.length xc127), (.slice xa147 (writeP p2).name.length xc148)]) (map2 rfl rfl) rfl (ent_19 _ _)) (tells_bool (tells_same (same_spec _ _ _ _ ((writeP p1).name) ((writeP p2).name) (S193).sat (r132.mono ((le144.trans le188).trans le195)) (r153.mono (le188.trans le195)))) (beq_eq_false_iff_ne.2 (hn))) (fun w208 S209 => ?_)
   simp only [pS, pN, pA, pC, pZ]
   refine do_ rfl (.bool false) (ex_pick (b := false) rfl) ?_
   simp only [pS, pN, pA, pC, pZ]
   refine wl_nil (hK204 _ _ ?_)
   refine wp_cond_false rfl ?_
   refine wp_skip ?_
   refine hK203 _ _ ?_
   refine wp_seq_k (fun K210 hK210 => region_wl ?_)
   refine do_ rfl (.slice a115 (forestW (writesN l0 20)).length c116) (ex_move _) ?_
   simp only [pS, pN, pA, pC, pZ]
   refine do_ rfl (.pointer (some ⟨n135, 0, none⟩)) (ex_field (q := ⟨n135, 0, none⟩) rfl (fa_36_0 _ _)) ?_
   simp only [pS, pN, pA, pC, pZ]
   refine do_ rfl (.slice xa126 (writeP p1).name.length xc127) (ex_load rfl (load1 (nagg_23 _) (St.cell S209 (i := 1) rfl rfl))) ?_
   simp only [pS, pN, pA, pC, pZ]
   refine do_ rfl (.pointer (some ⟨n135, 1, none⟩)) (ex_field (q := ⟨n135, 1, none⟩) rfl (fa_36_1 _ _)) ?_
   simp only [pS, pN, pA, pC, pZ]
   refine do_ rfl (.slice xa128 (writeP p1).key.length xc129) (ex_load rfl (load1 (nagg_23 _) (St.cell S209 (i := 1) rfl rfl))) ?_
   simp only [pS, pN, pA, pC, pZ]
   refine stGives S209 rfl (ex_fn (vs := #[(.slice a115 (forestW (writesN l0 20)).length c116), (.slice xa126 (writeP p1).name.length xc127), (.slice xa128 (writeP p1).key.length xc129)]) (map3 rfl rfl rfl) rfl (ent_21 _ _)) (forestProveT_spec _ _ _ _ _ (forestW (writesN l0 20)) ((writeP p1).name) ((writeP p1).key) (t := (treeF (forestW (writesN l0 20)) (writeP p1).name)) (S209).sat (hT.at S209.gr.below) (R113.mono (((le123.trans le144).trans le188).trans le195)) (r132.mono ((le144.trans le188).trans le195)) (r133.mono ((le144.trans le188).trans le195)) okf (writeP_ok p1).name ⟨(writeP_ok p1).key1, (writeP_ok p1).key2⟩ rfl) ?_
   intro v216 w211 F213 S212 le214 R215
   obtain ⟨_, _, rfl, ⟨sa217, sc218, ka219, kc220, va221, vc222, rfl, r223, r224, r225⟩, ⟨sa226, sc227, ka228, kc229, va230, vc231, rfl, r232, r233, r234⟩⟩ := R215
   simp only [pS, pN, pA, pC, pZ]
   refine do_ rfl (.tuple #[(.agg #[(.bool (proveT (rootsF (forestW (writesN l0 20))) ((writeP p1).name)).empty), (.slice sa217 (proveT (rootsF (forestW (writesN l0 20))) ((writeP p1).name)).steps.length sc218), (.slice ka219 (proveT (rootsF (forestW (writesN l0 20))) ((writeP p1).name)).pair.1.length kc220), (.slice va221 (proveT (rootsF (forestW (writesN l0 20))) ((writeP p1).name)).pair.2.length vc222)]), (.agg #[(.bool (proveT (treeF (forestW (writesN l0 20)) (writeP p1).name) ((writeP p1).key)).empty), (.slice sa226 (proveT (treeF (forestW (writesN l0 20)) (writeP p1).name) ((writeP p1).key)).steps.length sc227), (.slice ka228 (proveT (treeF (forestW (writesN l0 20)) (writeP p1).name) ((writeP p1).key)).pair.1.length kc229), (.slice va230 (proveT (treeF (forestW (writesN l0 20)) (writeP p1).name) ((writeP p1).key)).pair.2.length vc231)]), (.int .i64 0)]) (ex_move _) ?_
   simp only [pS, pN, pA, pC, pZ]
   refine do_ rfl (.agg #[(.bool (proveT (rootsF (forestW (writesN l0 20))) ((writeP p1).name)).empty), (.slice sa217 (proveT (rootsF (forestW (writesN l0 20))) ((writeP p1).name)).steps.length sc218), (.slice ka219 (proveT (rootsF (forestW (writesN l0 20))) ((writeP p1).name)).pair.1.length kc220), (.slice va221 (proveT (rootsF (forestW (writesN l0 20))) ((writeP p1).name)).pair.2.length vc222)]) (ex_extract rfl rfl) ?_
   simp only [pS, pN, pA, pC, pZ]
   refine do_ rfl (.agg #[(.bool (proveT (treeF (forestW (writesN l0 20)) (writeP p1).name) ((writeP p1).key)).empty), (.slice sa226 (proveT (treeF (forestW (writesN l0 20)) (writeP p1).name) ((writeP p1).key)).steps.length sc227), (.slice ka228 (proveT (treeF (forestW (writesN l0 20)) (writeP p1).name) ((writeP p1).key)).pair.1.length kc229), (.slice va230 (proveT (treeF (forestW (writesN l0 20)) (writeP p1).name) ((writeP p1).key)).pair.2.length vc231)]) (ex_extract rfl rfl) ?_
   simp only [pS, pN, pA, pC, pZ]
   refine do_ rfl (.int .i64 0) (ex_extract rfl rfl) ?_
   simp only [pS, pN, pA, pC, pZ]
   refine stNew S212 (v := fun n => .pointer (some ⟨n, 0, none⟩)) rfl (ex_alloc (zero_49 _)) (fun n235 w236 S237 => ?_)
   simp only [pS, pN, pA, pC, pZ]
   have S237 : St W (whole W) w236 F213 [⟨n235, [(.bool false), (.slice none 0 0), (.slice none 0 0), (.slice none 0 0)], 49⟩, ⟨n156, [(.slice xa147 (writeP p2).name.length xc148), (.slice xa149 (writeP p2).key.length xc150), (.bool (writeP p2).gone), (.slice xa151 (writeP p2).value.length xc152)], 36⟩, ⟨n135, [(.slice xa126 (writeP p1).name.length xc127), (.slice xa128 (writeP p1).key.length xc129), (.bool (writeP p1).gone), (.slice xa130 (writeP p1).value.length xc131)], 36⟩, ⟨n105, [(.slice a20 p2.name.length c20), (.slice a21 p2.key.length c21), (.slice a22 p2.value.length c22), (.bool p2.gone)], 45⟩, ⟨n102, [(.slice a10 p1.name.length c10), (.slice a11 p1.key.length c11), (.slice a12 p1.value.length c12), (.bool p1.gone)], 45⟩] [] := S237
   refine stNew S237 (v := fun n => .pointer (some ⟨n, 0, none⟩)) rfl (ex_alloc (zero_49 _)) (fun n238 w239 S240 => ?_)
   simp only [pS, pN, pA, pC, pZ]
   have S240 : St W (whole W) w239 F213 [⟨n238, [(.bool false), (.slice none 0 0), (.slice none 0 0), (.slice none 0 0)], 49⟩, ⟨n235, [(.bool false), (.slice none 0 0), (.slice none 0 0), (.slice none 0 0)], 49⟩, ⟨n156, [(.slice xa147 (writeP p2).name.length xc148), (.slice xa149 (writeP p2).key.length xc150), (.bool (writeP p2).gone), (.slice xa151 (writeP p2).value.length xc152)], 36⟩, ⟨n135, [(.slice xa126 (writeP p1).name.length xc127), (.slice xa128 (writeP p1).key.length xc129), (.bool (writeP p1).gone), (.slice xa130 (writeP p1).value.length xc131)], 36⟩, ⟨n105, [(.slice a20 p2.name.length c20), (.slice a21 p2.key.length c21), (.slice a22 p2.value.length c22), (.bool p2.gone)], 45⟩, ⟨n102, [(.slice a10 p1.name.length c10), (.slice a11 p1.key.length c11), (.slice a12 p1.value.length c12), (.bool p1.gone)], 45⟩] [] := S240
   refine stStore (i := 1) (v := (.agg #[(.bool (proveT (rootsF (forestW (writesN l0 20))) ((writeP p1).name)).empty), (.slice sa217 (proveT (rootsF (forestW (writesN l0 20))) ((writeP p1).name)).steps.length sc218), (.slice ka219 (proveT (rootsF (forestW (writesN l0 20))) ((writeP p1).name)).pair.1.length kc220), (.slice va221 (proveT (rootsF (forestW (writesN l0 20))) ((writeP p1).name)).pair.2.length vc222)])) S240 rfl rfl rfl rfl (size_49) (allc4 rfl rfl rfl rfl) (Nat.le_of_ble_eq_true rfl) (fun w241 S242 => ?_)
   simp only [pS, pN, pA, pC, pZ]
   have S242 : St W (whole W) w241 F213 [⟨n238, [(.bool false), (.slice none 0 0), (.slice none 0 0), (.slice none 0 0)], 49⟩, ⟨n235, [(.bool (proveT (rootsF (forestW (writesN l0 20))) ((writeP p1).name)).empty), (.slice sa217 (proveT (rootsF (forestW (writesN l0 20))) ((writeP p1).name)).steps.length sc218), (.slice ka219 (proveT (rootsF (forestW (writesN l0 20))) ((writeP p1).name)).pair.1.length kc220), (.slice va221 (proveT (rootsF (forestW (writesN l0 20))) ((writeP p1).name)).pair.2.length vc222)], 49⟩, ⟨n156, [(.slice xa147 (writeP p2).name.length xc148), (.slice xa149 (writeP p2).key.length xc150), (.bool (writeP p2).gone), (.slice xa151 (writeP p2).value.length xc152)], 36⟩, ⟨n135, [(.slice xa126 (writeP p1).name.length xc127), (.slice xa128 (writeP p1).key.length xc129), (.bool (writeP p1).gone), (.slice xa130 (writeP p1).value.length xc131)], 36⟩, ⟨n105, [(.slice a20 p2.name.length c20), (.slice a21 p2.key.length c21), (.slice a22 p2.value.length c22), (.bool p2.gone)], 45⟩, ⟨n102, [(.slice a10 p1.name.length c10), (.slice a11 p1.key.length c11), (.slice a12 p1.value.length c12), (.bool p1.gone)], 45⟩] [] := S242
   refine stStore (i := 0) (v := (.agg #[(.bool (proveT (treeF (forestW (writesN l0 20)) (writeP p1).name) ((writeP p1).key)).empty), (.slice sa226 (proveT (treeF (forestW (writesN l0 20)) (writeP p1).name) ((writeP p1).key)).steps.length sc227), (.slice ka228 (proveT (treeF (forestW (writesN l0 20)) (writeP p1).name) ((writeP p1).key)).pair.1.length kc229), (.slice va230 (proveT (treeF (forestW (writesN l0 20)) (writeP p1).name) ((writeP p1).key)).pair.2.length vc231)])) S242 rfl rfl rfl rfl (size_49) (allc4 rfl rfl rfl rfl) (Nat.le_of_ble_eq_true rfl) (fun w243 S244 => ?_)
   simp only [pS, pN, pA, pC, pZ]
   have S244 : St W (whole W) w243 F213 [⟨n238, [(.bool (proveT (treeF (forestW (writesN l0 20)) (writeP p1).name) ((writeP p1).key)).empty), (.slice sa226 (proveT (treeF (forestW (writesN l0 20)) (writeP p1).name) ((writeP p1).key)).steps.length sc227), (.slice ka228 (proveT (treeF (forestW (writesN l0 20)) (writeP p1).name) ((writeP p1).key)).pair.1.length kc229), (.slice va230 (proveT (treeF (forestW (writesN l0 20)) (writeP p1).name) ((writeP p1).key)).pair.2.length vc231)], 49⟩, ⟨n235, [(.bool (proveT (rootsF (forestW (writesN l0 20))) ((writeP p1).name)).empty), (.slice sa217 (proveT (rootsF (forestW (writesN l0 20))) ((writeP p1).name)).steps.length sc218), (.slice ka219 (proveT (rootsF (forestW (writesN l0 20))) ((writeP p1).name)).pair.1.length kc220), (.slice va221 (proveT (rootsF (forestW (writesN l0 20))) ((writeP p1).name)).pair.2.length vc222)], 49⟩, ⟨n156, [(.slice xa147 (writeP p2).name.length xc148), (.slice xa149 (writeP p2).key.length xc150), (.bool (writeP p2).gone), (.slice xa151 (writeP p2).value.length xc152)], 36⟩, ⟨n135, [(.slice xa126 (writeP p1).name.length xc127), (.slice xa128 (writeP p1).key.length xc129), (.bool (writeP p1).gone), (.slice xa130 (writeP p1).value.length xc131)], 36⟩, ⟨n105, [(.slice a20 p2.name.length c20), (.slice a21 p2.key.length c21), (.slice a22 p2.value.length c22), (.bool p2.gone)], 45⟩, ⟨n102, [(.slice a10 p1.name.length c10), (.slice a11 p1.key.length c11), (.slice a12 p1.value.length c12), (.bool p1.gone)], 45⟩] [] := S244
   refine do_ rfl (.int .i64 0) (ex_assign _) ?_
   simp only [pS, pN, pA, pC, pZ]
   refine wl_nil (hK210 _ _ ?_)
   refine wp_seq_k (fun K245 hK245 => region_wl ?_)
   refine do_ rfl (.slice a198 g.length c199) (ex_move _) ?_
   simp only [pS, pN, pA, pC, pZ]
   refine do_ rfl (.pointer (some ⟨n135, 0, none⟩)) (ex_field (q := ⟨n135, 0, none⟩) rfl (fa_36_0 _ _)) ?_
   simp only [pS, pN, pA, pC, pZ]
   refine do_ rfl (.slice xa126 (writeP p1).name.length xc127) (ex_load rfl (load1 (nagg_23 _) (St.cell S244 (i := 3) rfl rfl))) ?_
   simp only [pS, pN, pA, pC, pZ]
   refine do_ rfl (.pointer (some ⟨n135, 1, none⟩)) (ex_field (q := ⟨n135, 1, none⟩) rfl (fa_36_1 _ _)) ?_
   simp only [pS, pN, pA, pC, pZ]
   refine do_ rfl (.slice xa128 (writeP p1).key.length xc129) (ex_load rfl (load1 (nagg_23 _) (St.cell S244 (i := 3) rfl rfl))) ?_
   simp only [pS, pN, pA, pC, pZ]
   refine stGives S244 rfl (ex_fn (vs := #[(.slice a198 g.length c199), (.slice xa126 (writeP p1).name.length xc127), (.slice xa128 (writeP p1).key.length xc129)]) (map3 rfl rfl rfl) rfl (ent_21 _ _)) (forestProveT_spec _ _ _ _ _ g ((writeP p1).name) ((writeP p1).key) (t := (treeF (forestW (writesN l0 20)) (writeP p1).name)) (S244).sat (hT.at S244.gr.below) (r200.mono le214) (r132.mono (((le144.trans le188).trans le195).trans le214)) (r133.mono (((le144.trans le188).trans le195).trans le214)) okg (writeP_ok p1).name ⟨(writeP_ok p1).key1, (writeP_ok p1).key2⟩ hte) ?_
   intro v251 w246 F248 S247 le249 R250
   obtain ⟨_, _, rfl, ⟨sa252, sc253, ka254, kc255, va256, vc257, rfl, r258, r259, r260⟩, ⟨sa261, sc262, ka263, kc264, va265, vc266, rfl, r267, r268, r269⟩⟩ := R250
   simp only [pS, pN, pA, pC, pZ]
   refine do_ rfl (.tuple #[(.agg #[(.bool (proveT (rootsF g) ((writeP p1).name)).empty), (.slice sa252 (proveT (rootsF g) ((writeP p1).name)).steps.length sc253), (.slice ka254 (proveT (rootsF g) ((writeP p1).name)).pair.1.length kc255), (.slice va256 (proveT (rootsF g) ((writeP p1).name)).pair.2.length vc257)]), (.agg #[(.bool (proveT (treeF (forestW (writesN l0 20)) (writeP p1).name) ((writeP p1).key)).empty), (.slice sa261 (proveT (treeF (forestW (writesN l0 20)) (writeP p1).name) ((writeP p1).key)).steps.length sc262), (.slice ka263 (proveT (treeF (forestW (writesN l0 20)) (writeP p1).name) ((writeP p1).key)).pair.1.length kc264), (.slice va265 (proveT (treeF (forestW (writesN l0 20)) (writeP p1).name) ((writeP p1).key)).pair.2.length vc266)]), (.int .i64 0)]) (ex_move _) ?_
   simp only [pS, pN, pA, pC, pZ]
   refine do_ rfl (.agg #[(.bool (proveT (rootsF g) ((writeP p1).name)).empty), (.slice sa252 (proveT (rootsF g) ((writeP p1).name)).steps.length sc253), (.slice ka254 (proveT (rootsF g) ((writeP p1).name)).pair.1.length kc255), (.slice va256 (proveT (rootsF g) ((writeP p1).name)).pair.2.length vc257)]) (ex_extract rfl rfl) ?_
   simp only [pS, pN, pA, pC, pZ]
   refine do_ rfl (.agg #[(.bool (proveT (treeF (forestW (writesN l0 20)) (writeP p1).name) ((writeP p1).key)).empty), (.slice sa261 (proveT (treeF (forestW (writesN l0 20)) (writeP p1).name) ((writeP p1).key)).steps.length sc262), (.slice ka263 (proveT (treeF (forestW (writesN l0 20)) (writeP p1).name) ((writeP p1).key)).pair.1.length kc264), (.slice va265 (proveT (treeF (forestW (writesN l0 20)) (writeP p1).name) ((writeP p1).key)).pair.2.length vc266)]) (ex_extract rfl rfl) ?_
   simp only [pS, pN, pA, pC, pZ]
   refine do_ rfl (.int .i64 0) (ex_extract rfl rfl) ?_
   simp only [pS, pN, pA, pC, pZ]
   refine stNew S247 (v := fun n => .pointer (some ⟨n, 0, none⟩)) rfl (ex_alloc (zero_49 _)) (fun n270 w271 S272 => ?_)
   simp only [pS, pN, pA, pC, pZ]
   have S272 : St W (whole W) w271 F248 [⟨n270, [(.bool false), (.slice none 0 0), (.slice none 0 0), (.slice none 0 0)], 49⟩, ⟨n238, [(.bool (proveT (treeF (forestW (writesN l0 20)) (writeP p1).name) ((writeP p1).key)).empty), (.slice sa226 (proveT (treeF (forestW (writesN l0 20)) (writeP p1).name) ((writeP p1).key)).steps.length sc227), (.slice ka228 (proveT (treeF (forestW (writesN l0 20)) (writeP p1).name) ((writeP p1).key)).pair.1.length kc229), (.slice va230 (proveT (treeF (forestW (writesN l0 20)) (writeP p1).name) ((writeP p1).key)).pair.2.length vc231)], 49⟩, ⟨n235, [(.bool (proveT (rootsF (forestW (writesN l0 20))) ((writeP p1).name)).empty), (.slice sa217 (proveT (rootsF (forestW (writesN l0 20))) ((writeP p1).name)).steps.length sc218), (.slice ka219 (proveT (rootsF (forestW (writesN l0 20))) ((writeP p1).name)).pair.1.length kc220), (.slice va221 (proveT (rootsF (forestW (writesN l0 20))) ((writeP p1).name)).pair.2.length vc222)], 49⟩, ⟨n156, [(.slice xa147 (writeP p2).name.length xc148), (.slice xa149 (writeP p2).key.length xc150), (.bool (writeP p2).gone), (.slice xa151 (writeP p2).value.length xc152)], 36⟩, ⟨n135, [(.slice xa126 (writeP p1).name.length xc127), (.slice xa128 (writeP p1).key.length xc129), (.bool (writeP p1).gone), (.slice xa130 (writeP p1).value.length xc131)], 36⟩, ⟨n105, [(.slice a20 p2.name.length c20), (.slice a21 p2.key.length c21), (.slice a22 p2.value.length c22), (.bool p2.gone)], 45⟩, ⟨n102, [(.slice a10 p1.name.length c10), (.slice a11 p1.key.length c11), (.slice a12 p1.value.length c12), (.bool p1.gone)], 45⟩] [] := S272
   refine stNew S272 (v := fun n => .pointer (some ⟨n, 0, none⟩)) rfl (ex_alloc (zero_49 _)) (fun n273 w274 S275 => ?_)
   simp only [pS, pN, pA, pC, pZ]
   have S275 : St W (whole W) w274 F248 [⟨n273, [(.bool false), (.slice none 0 0), (.slice none 0 0), (.slice none 0 0)], 49⟩, ⟨n270, [(.bool false), (.slice none 0 0), (.slice none 0 0), (.slice none 0 0)], 49⟩, ⟨n238, [(.bool (proveT (treeF (forestW (writesN l0 20)) (writeP p1).name) ((writeP p1).key)).empty), (.slice sa226 (proveT (treeF (forestW (writesN l0 20)) (writeP p1).name) ((writeP p1).key)).steps.length sc227), (.slice ka228 (proveT (treeF (forestW (writesN l0 20)) (writeP p1).name) ((writeP p1).key)).pair.1.length kc229), (.slice va230 (proveT (treeF (forestW (writesN l0 20)) (writeP p1).name) ((writeP p1).key)).pair.2.length vc231)], 49⟩, ⟨n235, [(.bool (proveT (rootsF (forestW (writesN l0 20))) ((writeP p1).name)).empty), (.slice sa217 (proveT (rootsF (forestW (writesN l0 20))) ((writeP p1).name)).steps.length sc218), (.slice ka219 (proveT (rootsF (forestW (writesN l0 20))) ((writeP p1).name)).pair.1.length kc220), (.slice va221 (proveT (rootsF (forestW (writesN l0 20))) ((writeP p1).name)).pair.2.length vc222)], 49⟩, ⟨n156, [(.slice xa147 (writeP p2).name.length xc148), (.slice xa149 (writeP p2).key.length xc150), (.bool (writeP p2).gone), (.slice xa151 (writeP p2).value.length xc152)], 36⟩, ⟨n135, [(.slice xa126 (writeP p1).name.length xc127), (.slice xa128 (writeP p1).key.length xc129), (.bool (writeP p1).gone), (.slice xa130 (writeP p1).value.length xc131)], 36⟩, ⟨n105, [(.slice a20 p2.name.length c20), (.slice a21 p2.key.length c21), (.slice a22 p2.value.length c22), (.bool p2.gone)], 45⟩, ⟨n102, [(.slice a10 p1.name.length c10), (.slice a11 p1.key.length c11), (.slice a12 p1.value.length c12), (.bool p1.gone)], 45⟩] [] := S275
   refine stStore (i := 1) (v := (.agg #[(.bool (proveT (rootsF g) ((writeP p1).name)).empty), (.slice sa252 (proveT (rootsF g) ((writeP p1).name)).steps.length sc253), (.slice ka254 (proveT (rootsF g) ((writeP p1).name)).pair.1.length kc255), (.slice va256 (proveT (rootsF g) ((writeP p1).name)).pair.2.length vc257)])) S275 rfl rfl rfl rfl (size_49) (allc4 rfl rfl rfl rfl) (Nat.le_of_ble_eq_true rfl) (fun w276 S277 => ?_)
   simp only [pS, pN, pA, pC, pZ]
   have S277 : St W (whole W) w276 F248 [⟨n273, [(.bool false), (.slice none 0 0), (.slice none 0 0), (.slice none 0 0)], 49⟩, ⟨n270, [(.bool (proveT (rootsF g) ((writeP p1).name)).empty), (.slice sa252 (proveT (rootsF g) ((writeP p1).name)).steps.length sc253), (.slice ka254 (proveT (rootsF g) ((writeP p1).name)).pair.1.length kc255), (.slice va256 (proveT (rootsF g) ((writeP p1).name)).pair.2.length vc257)], 49⟩, ⟨n238, [(.bool (proveT (treeF (forestW (writesN l0 20)) (writeP p1).name) ((writeP p1).key)).empty), (.slice sa226 (proveT (treeF (forestW (writesN l0 20)) (writeP p1).name) ((writeP p1).key)).steps.length sc227), (.slice ka228 (proveT (treeF (forestW (writesN l0 20)) (writeP p1).name) ((writeP p1).key)).pair.1.length kc229), (.slice va230 (proveT (treeF (forestW (writesN l0 20)) (writeP p1).name) ((writeP p1).key)).pair.2.length vc231)], 49⟩, ⟨n235, [(.bool (proveT (rootsF (forestW (writesN l0 20))) ((writeP p1).name)).empty), (.slice sa217 (proveT (rootsF (forestW (writesN l0 20))) ((writeP p1).name)).steps.length sc218), (.slice ka219 (proveT (rootsF (forestW (writesN l0 20))) ((writeP p1).name)).pair.1.length kc220), (.slice va221 (proveT (rootsF (forestW (writesN l0 20))) ((writeP p1).name)).pair.2.length vc222)], 49⟩, ⟨n156, [(.slice xa147 (writeP p2).name.length xc148), (.slice xa149 (writeP p2).key.length xc150), (.bool (writeP p2).gone), (.slice xa151 (writeP p2).value.length xc152)], 36⟩, ⟨n135, [(.slice xa126 (writeP p1).name.length xc127), (.slice xa128 (writeP p1).key.length xc129), (.bool (writeP p1).gone), (.slice xa130 (writeP p1).value.length xc131)], 36⟩, ⟨n105, [(.slice a20 p2.name.length c20), (.slice a21 p2.key.length c21), (.slice a22 p2.value.length c22), (.bool p2.gone)], 45⟩, ⟨n102, [(.slice a10 p1.name.length c10), (.slice a11 p1.key.length c11), (.slice a12 p1.value.length c12), (.bool p1.gone)], 45⟩] [] := S277
   refine stStore (i := 0) (v := (.agg #[(.bool (proveT (treeF (forestW (writesN l0 20)) (writeP p1).name) ((writeP p1).key)).empty), (.slice sa261 (proveT (treeF (forestW (writesN l0 20)) (writeP p1).name) ((writeP p1).key)).steps.length sc262), (.slice ka263 (proveT (treeF (forestW (writesN l0 20)) (writeP p1).name) ((writeP p1).key)).pair.1.length kc264), (.slice va265 (proveT (treeF (forestW (writesN l0 20)) (writeP p1).name) ((writeP p1).key)).pair.2.length vc266)])) S277 rfl rfl rfl rfl (size_49) (allc4 rfl rfl rfl rfl) (Nat.le_of_ble_eq_true rfl) (fun w278 S279 => ?_)
   simp only [pS, pN, pA, pC, pZ]
   have S279 : St W (whole W) w278 F248 [⟨n273, [(.bool (proveT (treeF (forestW (writesN l0 20)) (writeP p1).name) ((writeP p1).key)).empty), (.slice sa261 (proveT (treeF (forestW (writesN l0 20)) (writeP p1).name) ((writeP p1).key)).steps.length sc262), (.slice ka263 (proveT (treeF (forestW (writesN l0 20)) (writeP p1).name) ((writeP p1).key)).pair.1.length kc264), (.slice va265 (proveT (treeF (forestW (writesN l0 20)) (writeP p1).name) ((writeP p1).key)).pair.2.length vc266)], 49⟩, ⟨n270, [(.bool (proveT (rootsF g) ((writeP p1).name)).empty), (.slice sa252 (proveT (rootsF g) ((writeP p1).name)).steps.length sc253), (.slice ka254 (proveT (rootsF g) ((writeP p1).name)).pair.1.length kc255), (.slice va256 (proveT (rootsF g) ((writeP p1).name)).pair.2.length vc257)], 49⟩, ⟨n238, [(.bool (proveT (treeF (forestW (writesN l0 20)) (writeP p1).name) ((writeP p1).key)).empty), (.slice sa226 (proveT (treeF (forestW (writesN l0 20)) (writeP p1).name) ((writeP p1).key)).steps.length sc227), (.slice ka228 (proveT (treeF (forestW (writesN l0 20)) (writeP p1).name) ((writeP p1).key)).pair.1.length kc229), (.slice va230 (proveT (treeF (forestW (writesN l0 20)) (writeP p1).name) ((writeP p1).key)).pair.2.length vc231)], 49⟩, ⟨n235, [(.bool (proveT (rootsF (forestW (writesN l0 20))) ((writeP p1).name)).empty), (.slice sa217 (proveT (rootsF (forestW (writesN l0 20))) ((writeP p1).name)).steps.length sc218), (.slice ka219 (proveT (rootsF (forestW (writesN l0 20))) ((writeP p1).name)).pair.1.length kc220), (.slice va221 (proveT (rootsF (forestW (writesN l0 20))) ((writeP p1).name)).pair.2.length vc222)], 49⟩, ⟨n156, [(.slice xa147 (writeP p2).name.length xc148), (.slice xa149 (writeP p2).key.length xc150), (.bool (writeP p2).gone), (.slice xa151 (writeP p2).value.length xc152)], 36⟩, ⟨n135, [(.slice xa126 (writeP p1).name.length xc127), (.slice xa128 (writeP p1).key.length xc129), (.bool (writeP p1).gone), (.slice xa130 (writeP p1).value.length xc131)], 36⟩, ⟨n105, [(.slice a20 p2.name.length c20), (.slice a21 p2.key.length c21), (.slice a22 p2.value.length c22), (.bool p2.gone)], 45⟩, ⟨n102, [(.slice a10 p1.name.length c10), (.slice a11 p1.key.length c11), (.slice a12 p1.value.length c12), (.bool p1.gone)], 45⟩] [] := S279
   refine do_ rfl (.int .i64 0) (ex_assign _) ?_
   simp only [pS, pN, pA, pC, pZ]
   refine wl_nil (hK245 _ _ ?_)
   refine wp_seq_k (fun K280 hK280 => region_wl ?_)
   refine do_ rfl (.slice a198 g.length c199) (ex_move _) ?_
   simp only [pS, pN, pA, pC, pZ]
   refine stGives S279 rfl (ex_fn (vs := #[(.slice a198 g.length c199)]) (map1 rfl) rfl (ent_17 _ _)) (forestRoot_spec _ _ _ g (S279).sat (hT.at S279.gr.below) (r200.mono (le214.trans le249)) okg) ?_
   intro v286 w281 F283 S282 le284 R285
   obtain ⟨x287, rfl, r288⟩ := R285
   obtain ⟨xa289, xc290, rfl, _⟩ := r288.shape
   have r288 : Bs _ (.slice xa289 (rootF g).length xc290) (rootF g) := r288
   simp only [pS, pN, pA, pC, pZ]
   refine do_ rfl (.tuple #[(.slice xa289 (rootF g).length xc290), (.int .i64 0)]) (ex_move _) ?_
   simp only [pS, pN, pA, pC, pZ]
   refine do_ rfl (.slice xa289 (rootF g).length xc290) (ex_extract rfl rfl) ?_
   simp only [pS, pN, pA, pC, pZ]
   refine do_ rfl (.int .i64 0) (ex_extract rfl rfl) ?_
   simp only [pS, pN, pA, pC, pZ]
   refine do_ rfl (.slice xa289 (rootF g).length xc290) (ex_assign _) ?_
   simp only [pS, pN, pA, pC, pZ]
   refine do_ rfl (.int .i64 0) (ex_assign _) ?_
   simp only [pS, pN, pA, pC, pZ]
   refine wl_nil (hK280 _ _ ?_)
   refine wp_seq_k (fun K291 hK291 => region_wl ?_)
   refine do_ rfl (.slice xa289 (rootF g).length xc290) (ex_move _) ?_
   simp only [pS, pN, pA, pC, pZ]
   refine do_ rfl (.pointer (some ⟨n135, 0, none⟩)) (ex_field (q := ⟨n135, 0, none⟩) rfl (fa_36_0 _ _)) ?_
   simp only [pS, pN, pA, pC, pZ]
   refine do_ rfl (.slice xa126 (writeP p1).name.length xc127) (ex_load rfl (load1 (nagg_23 _) (St.cell S282 (i := 5) rfl rfl))) ?_
   simp only [pS, pN, pA, pC, pZ]
   refine do_ rfl (.pointer (some ⟨n135, 1, none⟩)) (ex_field (q := ⟨n135, 1, none⟩) rfl (fa_36_1 _ _)) ?_
   simp only [pS, pN, pA, pC, pZ]
   refine do_ rfl (.slice xa128 (writeP p1).key.length xc129) (ex_load rfl (load1 (nagg_23 _) (St.cell S282 (i := 5) rfl rfl))) ?_
   simp only [pS, pN, pA, pC, pZ]
   refine do_ rfl (.agg #[(.bool (proveT (rootsF g) ((writeP p1).name)).empty), (.slice sa252 (proveT (rootsF g) ((writeP p1).name)).steps.length sc253), (.slice ka254 (proveT (rootsF g) ((writeP p1).name)).pair.1.length kc255), (.slice va256 (proveT (rootsF g) ((writeP p1).name)).pair.2.length vc257)]) (ex_load rfl (loadN (cs := [(.bool (proveT (rootsF g) ((writeP p1).name)).empty), (.slice sa252 (proveT (rootsF g) ((writeP p1).name)).steps.length sc253), (.slice ka254 (proveT (rootsF g) ((writeP p1).name)).pair.1.length kc255), (.slice va256 (proveT (rootsF g) ((writeP p1).name)).pair.2.length vc257)]) Tryd.underlying49 rfl (size_49) (St.range S282 (i := 1) rfl 0 [(.bool (proveT (rootsF g) ((writeP p1).name)).empty), (.slice sa252 (proveT (rootsF g) ((writeP p1).name)).steps.length sc253), (.slice ka254 (proveT (rootsF g) ((writeP p1).name)).pair.1.length kc255), (.slice va256 (proveT (rootsF g) ((writeP p1).name)).pair.2.length vc257)] (sub_range 0 rfl)))) ?_
   simp only [pS, pN, pA, pC, pZ]
   refine do_ rfl (.agg #[(.bool (proveT (treeF (forestW (writesN l0 20)) (writeP p1).name) ((writeP p1).key)).empty), (.slice sa226 (proveT (treeF (forestW (writesN l0 20)) (writeP p1).name) ((writeP p1).key)).steps.length sc227), (.slice ka228 (proveT (treeF (forestW (writesN l0 20)) (writeP p1).name) ((writeP p1).key)).pair.1.length kc229), (.slice va230 (proveT (treeF (forestW (writesN l0 20)) (writeP p1).name) ((writeP p1).key)).pair.2.length vc231)]) (ex_load rfl (loadN (cs := [(.bool (proveT (treeF (forestW (writesN l0 20)) (writeP p1).name) ((writeP p1).key)).empty), (.slice sa226 (proveT (treeF (forestW (writesN l0 20)) (writeP p1).name) ((writeP p1).key)).steps.length sc227), (.slice ka228 (proveT (treeF (forestW (writesN l0 20)) (writeP p1).name) ((writeP p1).key)).pair.1.length kc229), (.slice va230 (proveT (treeF (forestW (writesN l0 20)) (writeP p1).name) ((writeP p1).key)).pair.2.length vc231)]) Tryd.underlying49 rfl (size_49) (St.range S282 (i := 2) rfl 0 [(.bool (proveT (treeF (forestW (writesN l0 20)) (writeP p1).name) ((writeP p1).key)).empty), (.slice sa226 (proveT (treeF (forestW (writesN l0 20)) (writeP p1).name) ((writeP p1).key)).steps.length sc227), (.slice ka228 (proveT (treeF (forestW (writesN l0 20)) (writeP p1).name) ((writeP p1).key)).pair.1.length kc229), (.slice va230 (proveT (treeF (forestW (writesN l0 20)) (writeP p1).name) ((writeP p1).key)).pair.2.length vc231)] (sub_range 0 rfl)))) ?_
   simp only [pS, pN, pA, pC, pZ]
   refine stGives S282 rfl (ex_fn (vs := #[(.slice xa289 (rootF g).length xc290), (.slice xa126 (writeP p1).name.length xc127), (.slice xa128 (writeP p1).key.length xc129), (.agg #[(.bool (proveT (rootsF g) ((writeP p1).name)).empty), (.slice sa252 (proveT (rootsF g) ((writeP p1).name)).steps.length sc253), (.slice ka254 (proveT (rootsF g) ((writeP p1).name)).pair.1.length kc255), (.slice va256 (proveT (rootsF g) ((writeP p1).name)).pair.2.length vc257)]), (.agg #[(.bool (proveT (treeF (forestW (writesN l0 20)) (writeP p1).name) ((writeP p1).key)).empty), (.slice sa226 (proveT (treeF (forestW (writesN l0 20)) (writeP p1).name) ((writeP p1).key)).steps.length sc227), (.slice ka228 (proveT (treeF (forestW (writesN l0 20)) (writeP p1).name) ((writeP p1).key)).pair.1.length kc229), (.slice va230 (proveT (treeF (forestW (writesN l0 20)) (writeP p1).name) ((writeP p1).key)).pair.2.length vc231)])]) (map5 rfl rfl rfl rfl rfl) rfl (ent_22 _ _)) (forestVerifyT_spec _ _ _ _ _ _ _ g ((writeP p1).name) ((writeP p1).key) (t := (treeF (forestW (writesN l0 20)) (writeP p1).name)) (S282).sat (hT.at S282.gr.below) r288 (r132.mono (((((le144.trans le188).trans le195).trans le214).trans le249).trans le284)) (r133.mono (((((le144.trans le188).trans le195).trans le214).trans le249).trans le284)) ⟨_, _, _, _, _, _, rfl, (r258.mono le284), (r259.mono le284), (r260.mono le284)⟩ ⟨_, _, _, _, _, _, rfl, (r232.mono (le249.trans le284)), (r233.mono (le249.trans le284)), (r234.mono (le249.trans le284))⟩ okg (writeP_ok p1).name ⟨(writeP_ok p1).key1, (writeP_ok p1).key2⟩ hte) ?_
   intro v297 w292 F294 S293 le295 R296
   obtain ⟨_, rfl, a298, c299, rfl, r300⟩ := R296
   have r300 : Bs _ (.slice a298 ((getF (forestW (writesN l0 20)) (writeP p1).name (writeP p1).key).getD []).length c299) ((getF (forestW (writesN l0 20)) (writeP p1).name (writeP p1).key).getD []) := r300
   simp only [pS, pN, pA, pC, pZ]
   refine do_ rfl (.tuple #[(.agg #[(.bool (getF (forestW (writesN l0 20)) (writeP p1).name (writeP p1).key).isSome), (.slice a298 ((getF (forestW (writesN l0 20)) (writeP p1).name (writeP p1).key).getD []).length c299)]), (.int .i64 0)]) (ex_move _) ?_
   simp only [pS, pN, pA, pC, pZ]
   refine do_ rfl (.agg #[(.bool (getF (forestW (writesN l0 20)) (writeP p1).name (writeP p1).key).isSome), (.slice a298 ((getF (forestW (writesN l0 20)) (writeP p1).name (writeP p1).key).getD []).length c299)]) (ex_extract rfl rfl) ?_
   simp only [pS, pN, pA, pC, pZ]
   refine do_ rfl (.int .i64 0) (ex_extract rfl rfl) ?_
   simp only [pS, pN, pA, pC, pZ]
   refine stNew S293 (v := fun n => .pointer (some ⟨n, 0, none⟩)) rfl (ex_alloc (zero_53 _)) (fun n301 w302 S303 => ?_)
   simp only [pS, pN, pA, pC, pZ]
   have S303 : St W (whole W) w302 F294 [⟨n301, [(.bool false), (.slice none 0 0)], 53⟩, ⟨n273, [(.bool (proveT (treeF (forestW (writesN l0 20)) (writeP p1).name) ((writeP p1).key)).empty), (.slice sa261 (proveT (treeF (forestW (writesN l0 20)) (writeP p1).name) ((writeP p1).key)).steps.length sc262), (.slice ka263 (proveT (treeF (forestW (writesN l0 20)) (writeP p1).name) ((writeP p1).key)).pair.1.length kc264), (.slice va265 (proveT (treeF (forestW (writesN l0 20)) (writeP p1).name) ((writeP p1).key)).pair.2.length vc266)], 49⟩, ⟨n270, [(.bool (proveT (rootsF g) ((writeP p1).name)).empty), (.slice sa252 (proveT (rootsF g) ((writeP p1).name)).steps.length sc253), (.slice ka254 (proveT (rootsF g) ((writeP p1).name)).pair.1.length kc255), (.slice va256 (proveT (rootsF g) ((writeP p1).name)).pair.2.length vc257)], 49⟩, ⟨n238, [(.bool (proveT (treeF (forestW (writesN l0 20)) (writeP p1).name) ((writeP p1).key)).empty), (.slice sa226 (proveT (treeF (forestW (writesN l0 20)) (writeP p1).name) ((writeP p1).key)).steps.length sc227), (.slice ka228 (proveT (treeF (forestW (writesN l0 20)) (writeP p1).name) ((writeP p1).key)).pair.1.length kc229), (.slice va230 (proveT (treeF (forestW (writesN l0 20)) (writeP p1).name) ((writeP p1).key)).pair.2.length vc231)], 49⟩, ⟨n235, [(.bool (proveT (rootsF (forestW (writesN l0 20))) ((writeP p1).name)).empty), (.slice sa217 (proveT (rootsF (forestW (writesN l0 20))) ((writeP p1).name)).steps.length sc218), (.slice ka219 (proveT (rootsF (forestW (writesN l0 20))) ((writeP p1).name)).pair.1.length kc220), (.slice va221 (proveT (rootsF (forestW (writesN l0 20))) ((writeP p1).name)).pair.2.length vc222)], 49⟩, ⟨n156, [(.slice xa147 (writeP p2).name.length xc148), (.slice xa149 (writeP p2).key.length xc150), (.bool (writeP p2).gone), (.slice xa151 (writeP p2).value.length xc152)], 36⟩, ⟨n135, [(.slice xa126 (writeP p1).name.length xc127), (.slice xa128 (writeP p1).key.length xc129), (.bool (writeP p1).gone), (.slice xa130 (writeP p1).value.length xc131)], 36⟩, ⟨n105, [(.slice a20 p2.name.length c20), (.slice a21 p2.key.length c21), (.slice a22 p2.value.length c22), (.bool p2.gone)], 45⟩, ⟨n102, [(.slice a10 p1.name.length c10), (.slice a11 p1.key.length c11), (.slice a12 p1.value.length c12), (.bool p1.gone)], 45⟩] [] := S303
   refine stStore (i := 0) (v := (.agg #[(.bool (getF (forestW (writesN l0 20)) (writeP p1).name (writeP p1).key).isSome), (.slice a298 ((getF (forestW (writesN l0 20)) (writeP p1).name (writeP p1).key).getD []).length c299)])) S303 rfl rfl rfl rfl (size_53) (allc2 rfl rfl) (Nat.le_of_ble_eq_true rfl) (fun w304 S305 => ?_)
   simp only [pS, pN, pA, pC, pZ]
   have S305 : St W (whole W) w304 F294 [⟨n301, [(.bool (getF (forestW (writesN l0 20)) (writeP p1).name (writeP p1).key).isSome), (.slice a298 ((getF (forestW (writesN l0 20)) (writeP p1).name (writeP p1).key).getD []).length c299)], 53⟩, ⟨n273, [(.bool (proveT (treeF (forestW (writesN l0 20)) (writeP p1).name) ((writeP p1).key)).empty), (.slice sa261 (proveT (treeF (forestW (writesN l0 20)) (writeP p1).name) ((writeP p1).key)).steps.length sc262), (.slice ka263 (proveT (treeF (forestW (writesN l0 20)) (writeP p1).name) ((writeP p1).key)).pair.1.length kc264), (.slice va265 (proveT (treeF (forestW (writesN l0 20)) (writeP p1).name) ((writeP p1).key)).pair.2.length vc266)], 49⟩, ⟨n270, [(.bool (proveT (rootsF g) ((writeP p1).name)).empty), (.slice sa252 (proveT (rootsF g) ((writeP p1).name)).steps.length sc253), (.slice ka254 (proveT (rootsF g) ((writeP p1).name)).pair.1.length kc255), (.slice va256 (proveT (rootsF g) ((writeP p1).name)).pair.2.length vc257)], 49⟩, ⟨n238, [(.bool (proveT (treeF (forestW (writesN l0 20)) (writeP p1).name) ((writeP p1).key)).empty), (.slice sa226 (proveT (treeF (forestW (writesN l0 20)) (writeP p1).name) ((writeP p1).key)).steps.length sc227), (.slice ka228 (proveT (treeF (forestW (writesN l0 20)) (writeP p1).name) ((writeP p1).key)).pair.1.length kc229), (.slice va230 (proveT (treeF (forestW (writesN l0 20)) (writeP p1).name) ((writeP p1).key)).pair.2.length vc231)], 49⟩, ⟨n235, [(.bool (proveT (rootsF (forestW (writesN l0 20))) ((writeP p1).name)).empty), (.slice sa217 (proveT (rootsF (forestW (writesN l0 20))) ((writeP p1).name)).steps.length sc218), (.slice ka219 (proveT (rootsF (forestW (writesN l0 20))) ((writeP p1).name)).pair.1.length kc220), (.slice va221 (proveT (rootsF (forestW (writesN l0 20))) ((writeP p1).name)).pair.2.length vc222)], 49⟩, ⟨n156, [(.slice xa147 (writeP p2).name.length xc148), (.slice xa149 (writeP p2).key.length xc150), (.bool (writeP p2).gone), (.slice xa151 (writeP p2).value.length xc152)], 36⟩, ⟨n135, [(.slice xa126 (writeP p1).name.length xc127), (.slice xa128 (writeP p1).key.length xc129), (.bool (writeP p1).gone), (.slice xa130 (writeP p1).value.length xc131)], 36⟩, ⟨n105, [(.slice a20 p2.name.length c20), (.slice a21 p2.key.length c21), (.slice a22 p2.value.length c22), (.bool p2.gone)], 45⟩, ⟨n102, [(.slice a10 p1.name.length c10), (.slice a11 p1.key.length c11), (.slice a12 p1.value.length c12), (.bool p1.gone)], 45⟩] [] := S305
   refine do_ rfl (.int .i64 0) (ex_assign _) ?_
   simp only [pS, pN, pA, pC, pZ]
   refine wl_nil (hK291 _ _ ?_)
   refine wp_seq_k (fun K306 hK306 => region_wl ?_)
   refine do_ rfl (.slice a115 (forestW (writesN l0 20)).length c116) (ex_move _) ?_
   simp only [pS, pN, pA, pC, pZ]
   refine do_ rfl (.pointer (some ⟨n135, 0, none⟩)) (ex_field (q := ⟨n135, 0, none⟩) rfl (fa_36_0 _ _)) ?_
   simp only [pS, pN, pA, pC, pZ]
   refine do_ rfl (.slice xa126 (writeP p1).name.length xc127) (ex_load rfl (load1 (nagg_23 _) (St.cell S305 (i := 6) rfl rfl))) ?_
   simp only [pS, pN, pA, pC, pZ]
   refine do_ rfl (.pointer (some ⟨n135, 1, none⟩)) (ex_field (q := ⟨n135, 1, none⟩) rfl (fa_36_1 _ _)) ?_
   simp only [pS, pN, pA, pC, pZ]
   refine do_ rfl (.slice xa128 (writeP p1).key.length xc129) (ex_load rfl (load1 (nagg_23 _) (St.cell S305 (i := 6) rfl rfl))) ?_
   simp only [pS, pN, pA, pC, pZ]
   refine stGives S305 rfl (ex_fn (vs := #[(.slice a115 (forestW (writesN l0 20)).length c116), (.slice xa126 (writeP p1).name.length xc127), (.slice xa128 (writeP p1).key.length xc129)]) (map3 rfl rfl rfl) rfl (ent_23 _ _)) (getF_spec _ _ _ _ _ (forestW (writesN l0 20)) ((writeP p1).name) ((writeP p1).key) (S305).sat (R113.mono (((((((le123.trans le144).trans le188).trans le195).trans le214).trans le249).trans le284).trans le295)) (r132.mono ((((((le144.trans le188).trans le195).trans le214).trans le249).trans le284).trans le295)) (r133.mono ((((((le144.trans le188).trans le195).trans le214).trans le249).trans le284).trans le295)) okf (WrOk.name (writeP_ok p1)) ⟨WrOk.key1 (writeP_ok p1), WrOk.key2 (writeP_ok p1)⟩) ?_
   intro v312 w307 F309 S308 le310 R311
   obtain ⟨_, rfl, a313, c314, rfl, r315⟩ := R311
   have r315 : Bs _ (.slice a313 ((getF (forestW (writesN l0 20)) ((writeP p1).name) ((writeP p1).key)).getD []).length c314) ((getF (forestW (writesN l0 20)) ((writeP p1).name) ((writeP p1).key)).getD []) := r315
   simp only [pS, pN, pA, pC, pZ]
   refine do_ rfl (.tuple #[(.agg #[(.bool (getF (forestW (writesN l0 20)) ((writeP p1).name) ((writeP p1).key)).isSome), (.slice a313 ((getF (forestW (writesN l0 20)) ((writeP p1).name) ((writeP p1).key)).getD []).length c314)]), (.int .i64 0)]) (ex_move _) ?_
   simp only [pS, pN, pA, pC, pZ]
   refine do_ rfl (.agg #[(.bool (getF (forestW (writesN l0 20)) ((writeP p1).name) ((writeP p1).key)).isSome), (.slice a313 ((getF (forestW (writesN l0 20)) ((writeP p1).name) ((writeP p1).key)).getD []).length c314)]) (ex_extract rfl rfl) ?_
   simp only [pS, pN, pA, pC, pZ]
   refine do_ rfl (.int .i64 0) (ex_extract rfl rfl) ?_
   simp only [pS, pN, pA, pC, pZ]
   refine stNew S308 (v := fun n => .pointer (some ⟨n, 0, none⟩)) rfl (ex_alloc (zero_53 _)) (fun n316 w317 S318 => ?_)
   simp only [pS, pN, pA, pC, pZ]
   have S318 : St W (whole W) w317 F309 [⟨n316, [(.bool false), (.slice none 0 0)], 53⟩, ⟨n301, [(.bool (getF (forestW (writesN l0 20)) (writeP p1).name (writeP p1).key).isSome), (.slice a298 ((getF (forestW (writesN l0 20)) (writeP p1).name (writeP p1).key).getD []).length c299)], 53⟩, ⟨n273, [(.bool (proveT (treeF (forestW (writesN l0 20)) (writeP p1).name) ((writeP p1).key)).empty), (.slice sa261 (proveT (treeF (forestW (writesN l0 20)) (writeP p1).name) ((writeP p1).key)).steps.length sc262), (.slice ka263 (proveT (treeF (forestW (writesN l0 20)) (writeP p1).name) ((writeP p1).key)).pair.1.length kc264), (.slice va265 (proveT (treeF (forestW (writesN l0 20)) (writeP p1).name) ((writeP p1).key)).pair.2.length vc266)], 49⟩, ⟨n270, [(.bool (proveT (rootsF g) ((writeP p1).name)).empty), (.slice sa252 (proveT (rootsF g) ((writeP p1).name)).steps.length sc253), (.slice ka254 (proveT (rootsF g) ((writeP p1).name)).pair.1.length kc255), (.slice va256 (proveT (rootsF g) ((writeP p1).name)).pair.2.length vc257)], 49⟩, ⟨n238, [(.bool (proveT (treeF (forestW (writesN l0 20)) (writeP p1).name) ((writeP p1).key)).empty), (.slice sa226 (proveT (treeF (forestW (writesN l0 20)) (writeP p1).name) ((writeP p1).key)).steps.length sc227), (.slice ka228 (proveT (treeF (forestW (writesN l0 20)) (writeP p1).name) ((writeP p1).key)).pair.1.length kc229), (.slice va230 (proveT (treeF (forestW (writesN l0 20)) (writeP p1).name) ((writeP p1).key)).pair.2.length vc231)], 49⟩, ⟨n235, [(.bool (proveT (rootsF (forestW (writesN l0 20))) ((writeP p1).name)).empty), (.slice sa217 (proveT (rootsF (forestW (writesN l0 20))) ((writeP p1).name)).steps.length sc218), (.slice ka219 (proveT (rootsF (forestW (writesN l0 20))) ((writeP p1).name)).pair.1.length kc220), (.slice va221 (proveT (rootsF (forestW (writesN l0 20))) ((writeP p1).name)).pair.2.length vc222)], 49⟩, ⟨n156, [(.slice xa147 (writeP p2).name.length xc148), (.slice xa149 (writeP p2).key.length xc150), (.bool (writeP p2).gone), (.slice xa151 (writeP p2).value.length xc152)], 36⟩, ⟨n135, [(.slice xa126 (writeP p1).name.length xc127), (.slice xa128 (writeP p1).key.length xc129), (.bool (writeP p1).gone), (.slice xa130 (writeP p1).value.length xc131)], 36⟩, ⟨n105, [(.slice a20 p2.name.length c20), (.slice a21 p2.key.length c21), (.slice a22 p2.value.length c22), (.bool p2.gone)], 45⟩, ⟨n102, [(.slice a10 p1.name.length c10), (.slice a11 p1.key.length c11), (.slice a12 p1.value.length c12), (.bool p1.gone)], 45⟩] [] := S318
   refine stStore (i := 0) (v := (.agg #[(.bool (getF (forestW (writesN l0 20)) ((writeP p1).name) ((writeP p1).key)).isSome), (.slice a313 ((getF (forestW (writesN l0 20)) ((writeP p1).name) ((writeP p1).key)).getD []).length c314)])) S318 rfl rfl rfl rfl (size_53) (allc2 rfl rfl) (Nat.le_of_ble_eq_true rfl) (fun w319 S320 => ?_)
   simp only [pS, pN, pA, pC, pZ]
   have S320 : St W (whole W) w319 F309 [⟨n316, [(.bool (getF (forestW (writesN l0 20)) ((writeP p1).name) ((writeP p1).key)).isSome), (.slice a313 ((getF (forestW (writesN l0 20)) ((writeP p1).name) ((writeP p1).key)).getD []).length c314)], 53⟩, ⟨n301, [(.bool (getF (forestW (writesN l0 20)) (writeP p1).name (writeP p1).key).isSome), (.slice a298 ((getF (forestW (writesN l0 20)) (writeP p1).name (writeP p1).key).getD []).length c299)], 53⟩, ⟨n273, [(.bool (proveT (treeF (forestW (writesN l0 20)) (writeP p1).name) ((writeP p1).key)).empty), (.slice sa261 (proveT (treeF (forestW (writesN l0 20)) (writeP p1).name) ((writeP p1).key)).steps.length sc262), (.slice ka263 (proveT (treeF (forestW (writesN l0 20)) (writeP p1).name) ((writeP p1).key)).pair.1.length kc264), (.slice va265 (proveT (treeF (forestW (writesN l0 20)) (writeP p1).name) ((writeP p1).key)).pair.2.length vc266)], 49⟩, ⟨n270, [(.bool (proveT (rootsF g) ((writeP p1).name)).empty), (.slice sa252 (proveT (rootsF g) ((writeP p1).name)).steps.length sc253), (.slice ka254 (proveT (rootsF g) ((writeP p1).name)).pair.1.length kc255), (.slice va256 (proveT (rootsF g) ((writeP p1).name)).pair.2.length vc257)], 49⟩, ⟨n238, [(.bool (proveT (treeF (forestW (writesN l0 20)) (writeP p1).name) ((writeP p1).key)).empty), (.slice sa226 (proveT (treeF (forestW (writesN l0 20)) (writeP p1).name) ((writeP p1).key)).steps.length sc227), (.slice ka228 (proveT (treeF (forestW (writesN l0 20)) (writeP p1).name) ((writeP p1).key)).pair.1.length kc229), (.slice va230 (proveT (treeF (forestW (writesN l0 20)) (writeP p1).name) ((writeP p1).key)).pair.2.length vc231)], 49⟩, ⟨n235, [(.bool (proveT (rootsF (forestW (writesN l0 20))) ((writeP p1).name)).empty), (.slice sa217 (proveT (rootsF (forestW (writesN l0 20))) ((writeP p1).name)).steps.length sc218), (.slice ka219 (proveT (rootsF (forestW (writesN l0 20))) ((writeP p1).name)).pair.1.length kc220), (.slice va221 (proveT (rootsF (forestW (writesN l0 20))) ((writeP p1).name)).pair.2.length vc222)], 49⟩, ⟨n156, [(.slice xa147 (writeP p2).name.length xc148), (.slice xa149 (writeP p2).key.length xc150), (.bool (writeP p2).gone), (.slice xa151 (writeP p2).value.length xc152)], 36⟩, ⟨n135, [(.slice xa126 (writeP p1).name.length xc127), (.slice xa128 (writeP p1).key.length xc129), (.bool (writeP p1).gone), (.slice xa130 (writeP p1).value.length xc131)], 36⟩, ⟨n105, [(.slice a20 p2.name.length c20), (.slice a21 p2.key.length c21), (.slice a22 p2.value.length c22), (.bool p2.gone)], 45⟩, ⟨n102, [(.slice a10 p1.name.length c10), (.slice a11 p1.key.length c11), (.slice a12 p1.value.length c12), (.bool p1.gone)], 45⟩] [] := S320
   refine do_ rfl (.int .i64 0) (ex_assign _) ?_
   simp only [pS, pN, pA, pC, pZ]
   refine wl_nil (hK306 _ _ ?_)
   refine wp_seq_k (fun K321 hK321 => region_wl ?_)
   refine do_ rfl (.int .i64 0) (ex_move _) ?_
   simp only [pS, pN, pA, pC, pZ]
   refine do_ rfl (.bool true) (ex_eql (b := true) rfl rfl (by decide)) ?_
   simp only [pS, pN, pA, pC, pZ]
   refine do_ rfl (.bool true) (ex_move _) ?_
   simp only [pS, pN, pA, pC, pZ]
   refine do_ rfl (.int .i64 0) (ex_move _) ?_
   simp only [pS, pN, pA, pC, pZ]
   refine do_ rfl (.bool true) (ex_eql (b := true) rfl rfl (by decide)) ?_
   simp only [pS, pN, pA, pC, pZ]
   refine do_ rfl (.bool true) (ex_pick (b := true) rfl) ?_
   simp only [pS, pN, pA, pC, pZ]
   refine do_ rfl (.bool true) (ex_move _) ?_
   simp only [pS, pN, pA, pC, pZ]
   refine do_ rfl (.int .i64 0) (ex_move _) ?_
   simp only [pS, pN, pA, pC, pZ]
   refine do_ rfl (.bool true) (ex_eql (b := true) rfl rfl (by decide)) ?_
   simp only [pS, pN, pA, pC, pZ]
   refine do_ rfl (.bool true) (ex_pick (b := true) rfl) ?_
   simp only [pS, pN, pA, pC, pZ]
   refine do_ rfl (.bool true) (ex_move _) ?_
   simp only [pS, pN, pA, pC, pZ]
   refine do_ rfl (.int .i64 0) (ex_move _) ?_
   simp only [pS, pN, pA, pC, pZ]
   refine do_ rfl (.bool true) (ex_eql (b := true) rfl rfl (by decide)) ?_
   simp only [pS, pN, pA, pC, pZ]
   refine do_ rfl (.bool true) (ex_pick (b := true) rfl) ?_
   simp only [pS, pN, pA, pC, pZ]
   refine do_ rfl (.bool true) (ex_move _) ?_
   simp only [pS, pN, pA, pC, pZ]
   refine do_ rfl (.int .i64 0) (ex_move _) ?_
   simp only [pS, pN, pA, pC, pZ]
   refine do_ rfl (.bool true) (ex_eql (b := true) rfl rfl (by decide)) ?_
   simp only [pS, pN, pA, pC, pZ]
   refine do_ rfl (.bool true) (ex_pick (b := true) rfl) ?_
   simp only [pS, pN, pA, pC, pZ]
   refine do_ rfl (.bool true) (ex_move _) ?_
   simp only [pS, pN, pA, pC, pZ]
   refine do_ rfl (.pointer (some ⟨n238, 2, none⟩)) (ex_field (q := ⟨n238, 2, none⟩) rfl (fa_49_2 _ _)) ?_
   simp only [pS, pN, pA, pC, pZ]
   refine do_ rfl (.agg #[(.slice ka228 (proveT (treeF (forestW (writesN l0 20)) (writeP p1).name) ((writeP p1).key)).pair.1.length kc229), (.slice va230 (proveT (treeF (forestW (writesN l0 20)) (writeP p1).name) ((writeP p1).key)).pair.2.length vc231)]) (ex_load rfl (loadN (cs := [(.slice ka228 (proveT (treeF (forestW (writesN l0 20)) (writeP p1).name) ((writeP p1).key)).pair.1.length kc229), (.slice va230 (proveT (treeF (forestW (writesN l0 20)) (writeP p1).name) ((writeP p1).key)).pair.2.length vc231)]) Tryd.underlying34 rfl (size_34) (St.range S320 (i := 4) rfl 2 [(.slice ka228 (proveT (treeF (forestW (writesN l0 20)) (writeP p1).name) ((writeP p1).key)).pair.1.length kc229), (.slice va230 (proveT (treeF (forestW (writesN l0 20)) (writeP p1).name) ((writeP p1).key)).pair.2.length vc231)] (sub_range 2 rfl)))) ?_
   simp only [pS, pN, pA, pC, pZ]
   refine do_ rfl (.pointer (some ⟨n273, 2, none⟩)) (ex_field (q := ⟨n273, 2, none⟩) rfl (fa_49_2 _ _)) ?_
   simp only [pS, pN, pA, pC, pZ]
   refine do_ rfl (.agg #[(.slice ka263 (proveT (treeF (forestW (writesN l0 20)) (writeP p1).name) ((writeP p1).key)).pair.1.length kc264), (.slice va265 (proveT (treeF (forestW (writesN l0 20)) (writeP p1).name) ((writeP p1).key)).pair.2.length vc266)]) (ex_load rfl (loadN (cs := [(.slice ka263 (proveT (treeF (forestW (writesN l0 20)) (writeP p1).name) ((writeP p1).key)).pair.1.length kc264), (.slice va265 (proveT (treeF (forestW (writesN l0 20)) (writeP p1).name) ((writeP p1).key)).pair.2.length vc266)]) Tryd.underlying34 rfl (size_34) (St.range S320 (i := 2) rfl 2 [(.slice ka263 (proveT (treeF (forestW (writesN l0 20)) (writeP p1).name) ((writeP p1).key)).pair.1.length kc264), (.slice va265 (proveT (treeF (forestW (writesN l0 20)) (writeP p1).name) ((writeP p1).key)).pair.2.length vc266)] (sub_range 2 rfl)))) ?_
   simp only [pS, pN, pA, pC, pZ]
   refine stTells (v := (.bool true)) S320 rfl (ex_fn (vs := #[(.agg #[(.slice ka228 (proveT (treeF (forestW (writesN l0 20)) (writeP p1).name) ((writeP p1).key)).pair.1.length kc229), (.slice va230 (proveT (treeF (forestW (writesN l0 20)) (writeP p1).name) ((writeP p1).key)).pair.2.length vc231)]), (.agg #[(.slice ka263 (proveT (treeF (forestW (writesN l0 20)) (writeP p1).name) ((writeP p1).key)).pair.1.length kc264), (.slice va265 (proveT (treeF (forestW (writesN l0 20)) (writeP p1).name) ((writeP p1).key)).pair.2.length vc266)])]) (map2 rfl rfl) rfl (ent_24 _ _)) (tells_bool (samePair_spec _ _ _ _ (proveT (treeF (forestW (writesN l0 20)) (writeP p1).name) (writeP p1).key).pair (proveT (treeF (forestW (writesN l0 20)) (writeP p1).name) (writeP p1).key).pair (S320).sat ⟨_, _, _, _, rfl, (r233.mono (((le249.trans le284).trans le295).trans le310)), (r234.mono (((le249.trans le284).trans le295).trans le310))⟩ ⟨_, _, _, _, rfl, (r268.mono ((le284.trans le295).trans le310)), (r269.mono ((le284.trans le295).trans le310))⟩) (decide_eq_true rfl)) (fun w322 S323 => ?_)
   simp only [pS, pN, pA, pC, pZ]
   refine do_ rfl (.bool true) (ex_pick (b := true) rfl) ?_
   simp only [pS, pN, pA, pC, pZ]
   refine do_ rfl (.bool true) (ex_move _) ?_
   simp only [pS, pN, pA, pC, pZ]
   refine do_ rfl (.pointer (some ⟨n238, 1, none⟩)) (ex_field (q := ⟨n238, 1, none⟩) rfl (fa_49_1 _ _)) ?_
   simp only [pS, pN, pA, pC, pZ]
   refine do_ rfl (.slice sa226 (proveT (treeF (forestW (writesN l0 20)) (writeP p1).name) ((writeP p1).key)).steps.length sc227) (ex_load rfl (load1 (nagg_47 _) (St.cell S323 (i := 4) rfl rfl))) ?_
   simp only [pS, pN, pA, pC, pZ]
   refine do_ rfl (.int .i64 (((proveT (treeF (forestW (writesN l0 20)) (writeP p1).name) ((writeP p1).key)).steps.length : Nat) : Int)) (ex_len Tryd.underlying47 rfl) ?_
   simp only [pS, pN, pA, pC, pZ]
   refine do_ rfl (.pointer (some ⟨n273, 1, none⟩)) (ex_field (q := ⟨n273, 1, none⟩) rfl (fa_49_1 _ _)) ?_
   simp only [pS, pN, pA, pC, pZ]
   refine do_ rfl (.slice sa261 (proveT (treeF (forestW (writesN l0 20)) (writeP p1).name) ((writeP p1).key)).steps.length sc262) (ex_load rfl (load1 (nagg_47 _) (St.cell S323 (i := 2) rfl rfl))) ?_
   simp only [pS, pN, pA, pC, pZ]
   refine do_ rfl (.int .i64 (((proveT (treeF (forestW (writesN l0 20)) (writeP p1).name) ((writeP p1).key)).steps.length : Nat) : Int)) (ex_len Tryd.underlying47 rfl) ?_
   simp only [pS, pN, pA, pC, pZ]
   refine do_ rfl (.bool true) (ex_eql (m := (((proveT (treeF (forestW (writesN l0 20)) (writeP p1).name) ((writeP p1).key)).steps.length : Nat) : Int)) (n := (((proveT (treeF (forestW (writesN l0 20)) (writeP p1).name) ((writeP p1).key)).steps.length : Nat) : Int)) (b := true) rfl rfl (beq_iff_eq.2 (rfl))) ?_
   simp only [pS, pN, pA, pC, pZ]
   refine do_ rfl (.bool true) (ex_pick (b := true) rfl) ?_
   simp only [pS, pN, pA, pC, pZ]
   refine do_ rfl (.bool true) (ex_move _) ?_
   simp only [pS, pN, pA, pC, pZ]
   refine do_ rfl (.pointer (some ⟨n301, 0, none⟩)) (ex_field (q := ⟨n301, 0, none⟩) rfl (fa_53_0 _ _)) ?_
   simp only [pS, pN, pA, pC, pZ]
   refine do_ rfl (.bool (getF (forestW (writesN l0 20)) (writeP p1).name (writeP p1).key).isSome) (ex_load rfl (load1 (nagg_4 _) (St.cell S323 (i := 1) rfl rfl))) ?_
   simp only [pS, pN, pA, pC, pZ]
   refine do_ rfl (.pointer (some ⟨n316, 0, none⟩)) (ex_field (q := ⟨n316, 0, none⟩) rfl (fa_53_0 _ _)) ?_
   simp only [pS, pN, pA, pC, pZ]
   refine do_ rfl (.bool (getF (forestW (writesN l0 20)) ((writeP p1).name) ((writeP p1).key)).isSome) (ex_load rfl (load1 (nagg_4 _) (St.cell S323 (i := 0) rfl rfl))) ?_
   simp only [pS, pN, pA, pC, pZ]
   refine do_ rfl (.bool true) (ex_eqlB Tryd.underlying4 rfl rfl (beq_self_eq_true _)) ?_
   simp only [pS, pN, pA, pC, pZ]
   refine do_ rfl (.bool true) (ex_pick (b := true) rfl) ?_
   simp only [pS, pN, pA, pC, pZ]
   refine do_ rfl (.bool true) (ex_move _) ?_
   simp only [pS, pN, pA, pC, pZ]
   refine do_ rfl (.pointer (some ⟨n301, 1, none⟩)) (ex_field (q := ⟨n301, 1, none⟩) rfl (fa_53_1 _ _)) ?_
   simp only [pS, pN, pA, pC, pZ]
   refine do_ rfl (.slice a298 ((getF (forestW (writesN l0 20)) (writeP p1).name (writeP p1).key).getD []).length c299) (ex_load rfl (load1 (nagg_23 _) (St.cell S323 (i := 1) rfl rfl))) ?_
   simp only [pS, pN, pA, pC, pZ]
   refine do_ rfl (.pointer (some ⟨n316, 1, none⟩)) (ex_field (q := ⟨n316, 1, none⟩) rfl (fa_53_1 _ _)) ?_
   simp only [pS, pN, pA, pC, pZ]
   refine do_ rfl (.slice a313 ((getF (forestW (writesN l0 20)) ((writeP p1).name) ((writeP p1).key)).getD []).length c314) (ex_load rfl (load1 (nagg_23 _) (St.cell S323 (i := 0) rfl rfl))) ?_
   simp only [pS, pN, pA, pC, pZ]
   refine stTells (v := (.bool true)) S323 rfl (ex_fn (vs := #[(.slice a298 ((getF (forestW (writesN l0 20)) (writeP p1).name (writeP p1).key).getD []).length c299), (.slice a313 ((getF (forestW (writesN l0 20)) ((writeP p1).name) ((writeP p1).key)).getD []).length c314)]) (map2 rfl rfl) rfl (ent_19 _ _)) (tells_bool (tells_same (same_spec _ _ _ _ ((getF (forestW (writesN l0 20)) (writeP p1).name (writeP p1).key).getD []) ((getF (forestW (writesN l0 20)) ((writeP p1).name) ((writeP p1).key)).getD []) (S323).sat (r300.mono le310) r315)) (beq_iff_eq.2 (rfl))) (fun w324 S325 => ?_)
   simp only [pS, pN, pA, pC, pZ]
   refine do_ rfl (.bool true) (ex_pick (b := true) rfl) ?_
   simp only [pS, pN, pA, pC, pZ]
   refine do_ rfl (.bool true) (ex_move _) ?_
   simp only [pS, pN, pA, pC, pZ]
   refine do_ rfl (.slice xa289 (rootF g).length xc290) (ex_move _) ?_
   simp only [pS, pN, pA, pC, pZ]
   refine do_ rfl (.int .i64 (((rootF g).length : Nat) : Int)) (ex_len Tryd.underlying23 rfl) ?_
   simp only [pS, pN, pA, pC, pZ]
   refine do_ rfl (.bool true) (ex_eql (m := (((rootF g).length : Nat) : Int)) (n := (32 : Int)) (b := true) rfl rfl (beq_iff_eq.2 (by rw [rootF_len]; rfl))) ?_
   simp only [pS, pN, pA, pC, pZ]
   refine do_ rfl (.bool true) (ex_pick (b := true) rfl) ?_
   simp only [pS, pN, pA, pC, pZ]
   refine do_ rfl (.bool true) (ex_assign _) ?_
   simp only [pS, pN, pA, pC, pZ]
   refine wl_nil (hK321 _ _ ?_)
   refine wp_ret ?_
   (try simp only [Exit.then, Exit.inBlock, ↓reduceIte, Nat.reduceEqDiff])
   refine bodyPost_ret (v := (.bool true)) ?_ rfl ?_
   ·exact res_t rfl rfl
   ·exact ⟨rfl, S325.gr.below⟩
end Go.Proofs.YtikklmjengkliaaDoor
