/- The walk of ForestRange -/
import Derived.Test.YtcpngkkconalhaaY8
namespace Go.Proofs.Ytcpngkkconalhaa
open Go.RowKit
set_option maxRecDepth 100000
set_option linter.unusedVariables false
set_option linter.unusedSimpArgs false
theorem does_is {P : Program} {o : Oper} {a : Act} {w : World} {v : Value} (h : (execOp a.eval o).run P w = .ok (.value v) w) : Does P o a w (IsPost v w) := by
  unfold Does
  rw [h]
  exact ⟨rfl, Below.refl _ _⟩
theorem FndV.dropF {w : World} {F : Fz} {n : Nat} {cs : List Value} {T : TypeId} (hs : Sat w F) (hb : w.heap[n]? = some (.cells cs.toArray T (0, 0))) (hc : ∀ u ∈ cs, ∀ x, u ≠ bv x) {v : Value} {o : Option By} (h : FndV F v o) : FndV (Proofs.Ytcpngkkconalhaa.dropF F n) v o := by
  obtain ⟨a, c, rfl, h1⟩ := h
  exact ⟨a, c, rfl, h1.dropF hs hb hc⟩
theorem leq_less2 (x y : By) : (Op.bytesLess x y || x == y) = !Op.bytesLess y x := by
  cases h : Op.bytesLess x y with
  | true => rw [less_asymm x y h]; rfl
  | false =>
    cases h2 : Op.bytesLess y x with
    | true => have : x ≠ y := by rintro rfl; rw [h] at h2; cases h2
              simp [this]
    | false => have := less_total x y h h2; simp [this]
theorem mem_range {l : List Pr} {a b : By} {p : Pr} (h : p ∈ rangeT l a b) : p ∈ l ∧ Op.bytesLess p.1 a = false ∧ Op.bytesLess b p.1 = false := by
  unfold rangeT at h
  rw [List.mem_filter, Bool.and_eq_true, Bool.not_eq_true', Bool.not_eq_true'] at h
  exact h
theorem first_range {l : List Pr} (hr : Rise l) {a b v : By} (hg : getT l a = some v) (hb : ¬ Lt b a) : ∃ q, (rangeT l a b)[0]? = some q ∧ q.1 = a := by
  have hh : hasT l a = true := by rw [hasT_getT, hg]; rfl
  obtain ⟨h1, h2⟩ := (hasBy_at hr).1 hh
  have hm := posT_mono l hb
  have he : posT l a < endT l b := by
    rcases Nat.lt_or_eq_of_le hm with h3 | h3
    · exact Nat.lt_of_lt_of_le h3 (posT_endT l b)
    · have h4 := posBy_ge (f := (·.1)) hr (Nat.le_of_eq h3.symm) h1
      rw [show l[posBy (·.1) l a].1 = a from h2] at h4
      have h5 := less_total _ _ (by simpa using h4) (by simpa using hb)
      subst h5
      unfold endT
      rw [if_pos hh]
      omega
  refine ⟨l[posBy (·.1) l a], ?_, h2⟩
  rw [rangeT_end hr, List.getElem?_drop, List.getElem?_take, if_pos (by omega)]
  exact List.getElem?_eq_getElem h1
theorem getFIs_spec (F : Fz) (w : World) (v u z : Value) (l : Forest) (n k : By) {o : Option By} (hs : Sat w F) (hv : Tns F v l) (hn : Bs F u n) (hk : Bs F z k) (ok1 : ForestOk 60 l) (hnn : 1 ≤ n.length ∧ n.length ≤ 8) (hkk : 1 ≤ k.length ∧ k.length ≤ 16) (h : getF l n k = o) :
    Calls Try.prog 30 #[v, u, z] w (Gives w F (GetR o 0)) := by
  subst h; exact getF_spec F w v u z l n k hs hv hn hk ok1 hnn hkk
set_option maxHeartbeats 8000000 in
theorem rangeFBad_spec (F : Fz) (w : World) (v z y : Value) (l : Forest) (k j : By) (hs : Sat w F) (hv : Tns F v l) (hk : Bs F z k) (hj : Bs F y j) (ok1 : ForestOk 60 l) :
    Calls Try.prog 29 #[v, .slice none 0 0, z, y] w (Gives w F (PrsE [] 1)) := by
 obtain ⟨a, c, rfl, hc1, hc2⟩ := Sl.shape hv
 obtain ⟨a3, c3, rfl, _⟩ := hk.shape
 obtain ⟨a4, c4, rfl, _⟩ := hj.shape
 have S := St.start hs
 go_enter Try.func29, Try.ntmps29
 refine wp_seq_k (fun K1 hK1 => region_wl ?_)
 refine do_ rfl (.slice none 0 0) (ex_assign _) ?_
 simp only [pS, pN, pA, pC, pZ]
 refine do_ rfl (.int .i64 0) (ex_assign _) ?_
 simp only [pS, pN, pA, pC, pZ]
 refine wl_nil (hK1 _ _ ?_)
 refine wp_seq_k (fun K2 hK2 => ?_)
 refine wp_seq_k (fun K3 hK3 => region_wl ?_)
 refine do_ rfl (.slice a l.length c) (ex_move _) ?_
 simp only [pS, pN, pA, pC, pZ]
 refine do_ rfl (.slice none 0 0) (ex_move _) ?_
 simp only [pS, pN, pA, pC, pZ]
 refine stTells (v := (.int .i64 1)) S rfl (ex_fn (vs := #[(.slice a l.length c), (.slice none 0 0)]) (map2 rfl rfl) rfl (ent_63 _ _)) (checkedOk_spec _ _ _ _ l [] (S).sat hv (Bs.nil _) ok1 rfl) (fun w4 S5 => ?_)
 simp only [pS, pN, pA, pC, pZ]
 refine do_ rfl (.int .i64 1) (ex_assign _) ?_
 simp only [pS, pN, pA, pC, pZ]
 refine wl_nil (hK3 _ _ ?_)
 refine wp_seq_k (fun K6 hK6 => region_wl ?_)
 refine do_ rfl (.int .i64 1) (ex_move _) ?_
 simp only [pS, pN, pA, pC, pZ]
 refine do_ rfl (.bool true) (ex_neq (b := true) rfl rfl (by decide)) ?_
 simp only [pS, pN, pA, pC, pZ]
 refine wl_nil (hK6 _ _ ?_)
 refine wp_cond_true rfl ?_
 refine wp_seq_k (fun K7 hK7 => region_wl ?_)
 refine do_ rfl (.int .i64 1) (ex_move _) ?_
 simp only [pS, pN, pA, pC, pZ]
 refine do_ rfl (.slice none 0 0) (ex_assign _) ?_
 simp only [pS, pN, pA, pC, pZ]
 refine do_ rfl (.int .i64 1) (ex_assign _) ?_
 simp only [pS, pN, pA, pC, pZ]
 refine wl_nil (hK7 _ _ ?_)
 refine wp_ret ?_
 (try simp only [Exit.then, Exit.inBlock, ↓reduceIte, Nat.reduceEqDiff])
 refine bodyPost_ret (v := (.tuple #[(.slice none 0 0), (.int .i64 1)])) ?_ rfl ?_
 ·exact res_tt rfl rfl rfl
 ·exact ⟨_, _, rfl, S5.gr, _, rfl, Sl.nil _ _ _⟩
set_option maxHeartbeats 8000000 in
theorem forestRange_walk (W : World) (v0 : Value) (l0 : List Pl) (z0 : Pls (whole W) v0 l0) (p1 : Pl) (v10 : Value) (z10 : Bs (whole W) v10 p1.name) (v11 : Value) (z11 : Bs (whole W) v11 p1.key) (v12 : Value) (z12 : Bs (whole W) v12 p1.value) (v2 : Value) (l2 : By) (z2 : Bs (whole W) v2 l2) :
    Calls Try.prog 5 #[v0, .agg #[v10, v11, v12, .bool p1.gone], v2] W (Tells W (.bool true)) := by
 obtain ⟨a0, c0, rfl, q0, q0'⟩ := Sl.shape z0
 obtain ⟨a10, c10, rfl, _⟩ := z10.shape
 obtain ⟨a11, c11, rfl, _⟩ := z11.shape
 obtain ⟨a12, c12, rfl, _⟩ := z12.shape
 obtain ⟨a2, c2, rfl, _⟩ := z2.shape
 have okf : ForestOk 60 (forestW (writesN l0 30)) := (forestW_ok (writesN_ok l0 30)).mono (by have := writesN_len l0 30; omega)
 have S := St.start (Sat.whole W)
 go_enter Try.func5, Try.ntmps5
 refine wp_seq_k (fun K101 hK101 => region_wl ?_)
 refine stNew S (v := fun n => .pointer (some ⟨n, 0, none⟩)) rfl (ex_box (v := (.agg #[(.slice a10 p1.name.length c10), (.slice a11 p1.key.length c11), (.slice a12 p1.value.length c12), (.bool p1.gone)])) rfl) (fun n102 w103 S104 => ?_)
 simp only [pS, pN, pA, pC, pZ]
 have S104 : St W (whole W) w103 (whole W) [⟨n102, [(.slice a10 p1.name.length c10), (.slice a11 p1.key.length c11), (.slice a12 p1.value.length c12), (.bool p1.gone)], 30⟩] [] := S104
 refine do_ rfl (.bool false) (ex_assign _) ?_
 simp only [pS, pN, pA, pC, pZ]
 refine wl_nil (hK101 _ _ ?_)
 refine wp_seq_k (fun K105 hK105 => region_wl ?_)
 refine do_ rfl (.slice a0 l0.length c0) (ex_move _) ?_
 simp only [pS, pN, pA, pC, pZ]
 refine stGives S104 rfl (ex_fn (vs := #[(.slice a0 l0.length c0), (.int .i64 30)]) (map2 rfl rfl) rfl (ent_27 _ _)) (forest_spec _ _ _ l0 30 (S104).sat z0 (by omega)) ?_
 intro v111 w106 F108 S107 le109 R110
 obtain ⟨a112, c113, rfl, h114, h115⟩ := Sl.shape R110
 unfold maxLen at h115
 have R110 : Tns _ (.slice a112 (forestW (writesN l0 30)).length c113) (forestW (writesN l0 30)) := R110
 simp only [pS, pN, pA, pC, pZ]
 refine do_ rfl (.slice a112 (forestW (writesN l0 30)).length c113) (ex_assign _) ?_
 simp only [pS, pN, pA, pC, pZ]
 refine wl_nil (hK105 _ _ ?_)
 refine wp_seq_k (fun K116 hK116 => region_wl ?_)
 refine do_ rfl (.agg #[(.slice a10 p1.name.length c10), (.slice a11 p1.key.length c11), (.slice a12 p1.value.length c12), (.bool p1.gone)]) (ex_load rfl (loadN (cs := [(.slice a10 p1.name.length c10), (.slice a11 p1.key.length c11), (.slice a12 p1.value.length c12), (.bool p1.gone)]) Try.underlying30 rfl (size_30) (St.range S107 (i := 0) rfl 0 [(.slice a10 p1.name.length c10), (.slice a11 p1.key.length c11), (.slice a12 p1.value.length c12), (.bool p1.gone)] (sub_range 0 rfl)))) ?_
 simp only [pS, pN, pA, pC, pZ]
 refine stGives S107 rfl (ex_fn (vs := #[(.agg #[(.slice a10 p1.name.length c10), (.slice a11 p1.key.length c11), (.slice a12 p1.value.length c12), (.bool p1.gone)])]) (map1 rfl) rfl (ent_19 _ _)) (keepWrite_spec _ _ _ p1 (S107).sat ⟨_, _, _, _, _, _, rfl, (z10.mono le109), (z11.mono le109), (z12.mono le109)⟩) ?_
 intro v122 w117 F119 S118 le120 R121
 obtain ⟨xa123, xc124, xa125, xc126, xa127, xc128, rfl, r129, r130, r131⟩ := R121
 simp only [pS, pN, pA, pC, pZ]
 refine stNew S118 (v := fun n => .pointer (some ⟨n, 0, none⟩)) rfl (ex_alloc (zero_27 _)) (fun n132 w133 S134 => ?_)
 simp only [pS, pN, pA, pC, pZ]
 have S134 : St W (whole W) w133 F119 [⟨n132, [(.slice none 0 0), (.slice none 0 0), (.bool false), (.slice none 0 0)], 27⟩, ⟨n102, [(.slice a10 p1.name.length c10), (.slice a11 p1.key.length c11), (.slice a12 p1.value.length c12), (.bool p1.gone)], 30⟩] [] := S134
 refine stStore (i := 0) (v := (.agg #[(.slice xa123 (writeP p1).name.length xc124), (.slice xa125 (writeP p1).key.length xc126), (.bool (writeP p1).gone), (.slice xa127 (writeP p1).value.length xc128)])) S134 rfl rfl rfl rfl (size_27) (allc4 rfl rfl rfl rfl) (Nat.le_of_ble_eq_true rfl) (fun w135 S136 => ?_)
 simp only [pS, pN, pA, pC, pZ]
 have S136 : St W (whole W) w135 F119 [⟨n132, [(.slice xa123 (writeP p1).name.length xc124), (.slice xa125 (writeP p1).key.length xc126), (.bool (writeP p1).gone), (.slice xa127 (writeP p1).value.length xc128)], 27⟩, ⟨n102, [(.slice a10 p1.name.length c10), (.slice a11 p1.key.length c11), (.slice a12 p1.value.length c12), (.bool p1.gone)], 30⟩] [] := S136
 refine wl_nil (hK116 _ _ ?_)
 refine wp_seq_k (fun K137 hK137 => region_wl ?_)
 refine do_ rfl (.slice a2 l2.length c2) (ex_move _) ?_
 simp only [pS, pN, pA, pC, pZ]
 refine stGives S136 rfl (ex_fn (vs := #[(.slice a2 l2.length c2)]) (map1 rfl) rfl (ent_28 _ _)) (key_spec _ _ _ l2 (S136).sat (z2.mono (le109.trans le120))) ?_
 intro v143 w138 F140 S139 le141 R142
 obtain ⟨xa144, xc145, rfl, _⟩ := R142.shape
 simp only [pS, pN, pA, pC, pZ]
 refine do_ rfl (.slice xa144 (keyL l2).length xc145) (ex_assign _) ?_
 simp only [pS, pN, pA, pC, pZ]
 refine wl_nil (hK137 _ _ ?_)
 refine wp_seq_k (fun K146 hK146 => region_wl ?_)
 refine do_ rfl (.slice a112 (forestW (writesN l0 30)).length c113) (ex_move _) ?_
 simp only [pS, pN, pA, pC, pZ]
 refine do_ rfl (.pointer (some ⟨n132, 0, none⟩)) (ex_field (q := ⟨n132, 0, none⟩) rfl (fa_27_0 _ _)) ?_
 simp only [pS, pN, pA, pC, pZ]
 refine do_ rfl (.slice xa123 (writeP p1).name.length xc124) (ex_load rfl (load1 (nagg_25 _) (St.cell S139 (i := 0) rfl rfl))) ?_
 simp only [pS, pN, pA, pC, pZ]
 refine do_ rfl (.pointer (some ⟨n132, 1, none⟩)) (ex_field (q := ⟨n132, 1, none⟩) rfl (fa_27_1 _ _)) ?_
 simp only [pS, pN, pA, pC, pZ]
 refine do_ rfl (.slice xa125 (writeP p1).key.length xc126) (ex_load rfl (load1 (nagg_25 _) (St.cell S139 (i := 0) rfl rfl))) ?_
 simp only [pS, pN, pA, pC, pZ]
 refine do_ rfl (.slice xa144 (keyL l2).length xc145) (ex_move _) ?_
 simp only [pS, pN, pA, pC, pZ]
 refine stGives S139 rfl (ex_fn (vs := #[(.slice a112 (forestW (writesN l0 30)).length c113), (.slice xa123 (writeP p1).name.length xc124), (.slice xa125 (writeP p1).key.length xc126), (.slice xa144 (keyL l2).length xc145)]) (map4 rfl rfl rfl rfl) rfl (ent_29 _ _)) (rangeF_spec _ _ _ _ _ _ (forestW (writesN l0 30)) ((writeP p1).name) ((writeP p1).key) (keyL l2) (S139).sat (R110.mono (le120.trans le141)) (r129.mono le141) (r130.mono le141) R142 okf (writeP_ok p1).name ⟨(writeP_ok p1).key1, (writeP_ok p1).key2⟩ (keyL_len l2)) ?_
 intro v152 w147 F149 S148 le150 R151
 obtain ⟨_, rfl, r155⟩ := R151
 obtain ⟨a153, c154, rfl, h156, h157⟩ := Sl.shape r155
 unfold maxLen at h157
 have h156 : (rangeT (treeF (forestW (writesN l0 30)) (writeP p1).name) (writeP p1).key (keyL l2)).length ≤ c154 := h156
 have r155 : Prs _ (.slice a153 (rangeT (treeF (forestW (writesN l0 30)) (writeP p1).name) (writeP p1).key (keyL l2)).length c154) (rangeT (treeF (forestW (writesN l0 30)) (writeP p1).name) (writeP p1).key (keyL l2)) := r155
 simp only [pS, pN, pA, pC, pZ]
 refine do_ rfl (.tuple #[(.slice a153 (rangeT (treeF (forestW (writesN l0 30)) (writeP p1).name) (writeP p1).key (keyL l2)).length c154), (.int .i64 0)]) (ex_move _) ?_
 simp only [pS, pN, pA, pC, pZ]
 refine do_ rfl (.slice a153 (rangeT (treeF (forestW (writesN l0 30)) (writeP p1).name) (writeP p1).key (keyL l2)).length c154) (ex_extract rfl rfl) ?_
 simp only [pS, pN, pA, pC, pZ]
 refine do_ rfl (.int .i64 0) (ex_extract rfl rfl) ?_
 simp only [pS, pN, pA, pC, pZ]
 refine do_ rfl (.slice a153 (rangeT (treeF (forestW (writesN l0 30)) (writeP p1).name) (writeP p1).key (keyL l2)).length c154) (ex_assign _) ?_
 simp only [pS, pN, pA, pC, pZ]
 refine do_ rfl (.int .i64 0) (ex_assign _) ?_
 simp only [pS, pN, pA, pC, pZ]
 refine wl_nil (hK146 _ _ ?_)
 refine wp_seq_k (fun K158 hK158 => ?_)
 refine wp_seq_k (fun K159 hK159 => region_wl ?_)
 refine do_ rfl (.int .i64 0) (ex_assign _) ?_
 simp only [pS, pN, pA, pC, pZ]
 refine wl_nil (hK159 _ _ ?_)
 refine wp_block ?_
 refine wp_loop_g (fun mm aa w162 => ∃ (k : Nat) (F160 : Fz) (u161 : Nat → Value), mm = (rangeT (treeF (forestW (writesN l0 30)) (writeP p1).name) (writeP p1).key (keyL l2)).length - k ∧ u161 = slots aa ∧ aa = ⟨#[(.slice a0 l0.length c0), (.agg #[(.slice a10 p1.name.length c10), (.slice a11 p1.key.length c11), (.slice a12 p1.value.length c12), (.bool p1.gone)]), (.slice a2 l2.length c2), undef, (.pointer (some ⟨n102, 0, none⟩)), undef, (u161 6), (.slice a112 (forestW (writesN l0 30)).length c113), (.pointer (some ⟨n132, 0, none⟩)), (.slice xa144 (keyL l2).length xc145), (.slice a153 (rangeT (treeF (forestW (writesN l0 30)) (writeP p1).name) (writeP p1).key (keyL l2)).length c154), (.int .i64 0), (.int .i64 ((k : Nat) : Int)), (u161 13), (u161 14), undef, undef, undef, undef, (.slice a0 l0.length c0), (.slice a112 (forestW (writesN l0 30)).length c113), (.agg #[(.slice a10 p1.name.length c10), (.slice a11 p1.key.length c11), (.slice a12 p1.value.length c12), (.bool p1.gone)]), (.agg #[(.slice xa123 (writeP p1).name.length xc124), (.slice xa125 (writeP p1).key.length xc126), (.bool (writeP p1).gone), (.slice xa127 (writeP p1).value.length xc128)]), (.slice a2 l2.length c2), (.slice xa144 (keyL l2).length xc145), (.tuple #[(.slice a153 (rangeT (treeF (forestW (writesN l0 30)) (writeP p1).name) (writeP p1).key (keyL l2)).length c154), (.int .i64 0)]), (.slice a112 (forestW (writesN l0 30)).length c113), (.pointer (some ⟨n132, 0, none⟩)), (.slice xa123 (writeP p1).name.length xc124), (.pointer (some ⟨n132, 1, none⟩)), (.slice xa125 (writeP p1).key.length xc126), (.slice xa144 (keyL l2).length xc145), (.tuple #[(.slice a153 (rangeT (treeF (forestW (writesN l0 30)) (writeP p1).name) (writeP p1).key (keyL l2)).length c154), (.int .i64 0)]), (.slice a153 (rangeT (treeF (forestW (writesN l0 30)) (writeP p1).name) (writeP p1).key (keyL l2)).length c154), (.int .i64 0), (u161 35), (u161 36), (u161 37), (u161 38), (u161 39), (u161 40), (u161 41), (u161 42), (u161 43), (u161 44), (u161 45), (u161 46), (u161 47), (u161 48), (u161 49), (u161 50), (u161 51), (u161 52), (u161 53), (u161 54), (u161 55), (u161 56), (u161 57), (u161 58), (u161 59), (u161 60), (u161 61), (u161 62), (u161 63), (u161 64), (u161 65), (u161 66), (u161 67), (u161 68), (u161 69), (u161 70), (u161 71), (u161 72), (u161 73), (u161 74), (u161 75), (u161 76), (u161 77), (u161 78), (u161 79), (u161 80), (u161 81), (u161 82), (u161 83), (u161 84), (u161 85), (u161 86), (u161 87), (u161 88), (u161 89), (u161 90), (u161 91), (u161 92), (u161 93), undef, undef, undef, undef, undef, undef, undef, undef, undef, undef, undef, undef, undef, undef, undef, undef, undef, undef, undef, undef, undef, undef, undef, undef, undef, undef, undef, undef, undef, undef, undef, undef, undef, undef, undef, undef, undef, undef, undef, undef, undef, undef, undef, undef, undef, undef, undef, undef, undef, undef, undef, undef, undef], []⟩ ∧ St W (whole W) w162 F160 [⟨n132, [(.slice xa123 (writeP p1).name.length xc124), (.slice xa125 (writeP p1).key.length xc126), (.bool (writeP p1).gone), (.slice xa127 (writeP p1).value.length xc128)], 27⟩, ⟨n102, [(.slice a10 p1.name.length c10), (.slice a11 p1.key.length c11), (.slice a12 p1.value.length c12), (.bool p1.gone)], 30⟩] [] ∧ Le F149 F160 ∧ (k ≤ (rangeT (treeF (forestW (writesN l0 30)) (writeP p1).name) (writeP p1).key (keyL l2)).length)) _ ⟨0, F149, _, rfl, rfl, rfl, S148, Le.refl _, (by omega)⟩ ?_
 rintro m163 a164 w165 ⟨k, F160, u161, rfl, -, rfl, S166, le167, hk⟩ K168 hK168
 refine wp_seq_k (fun K169 hK169 => ?_)
 refine wp_seq_k (fun K170 hK170 => region_wl ?_)
 refine do_ rfl (.int .i64 ((k : Nat) : Int)) (ex_move _) ?_
 simp only [pS, pN, pA, pC, pZ]
 refine do_ rfl (.slice a153 (rangeT (treeF (forestW (writesN l0 30)) (writeP p1).name) (writeP p1).key (keyL l2)).length c154) (ex_move _) ?_
 simp only [pS, pN, pA, pC, pZ]
 refine do_ rfl (.int .i64 (((rangeT (treeF (forestW (writesN l0 30)) (writeP p1).name) (writeP p1).key (keyL l2)).length : Nat) : Int)) (ex_len Try.underlying23 rfl) ?_
 simp only [pS, pN, pA, pC, pZ]
 by_cases hc38 : k < (rangeT (treeF (forestW (writesN l0 30)) (writeP p1).name) (writeP p1).key (keyL l2)).length
 ·refine do_ rfl (.bool true) (ex_lss (m := ((k : Nat) : Int)) (n := (((rangeT (treeF (forestW (writesN l0 30)) (writeP p1).name) (writeP p1).key (keyL l2)).length : Nat) : Int)) (b := true) rfl rfl (decide_eq_true (by omega))) ?_
  simp only [pS, pN, pA, pC, pZ]
  refine wl_nil (hK170 _ _ ?_)
  refine wp_cond_true rfl ?_
  refine wp_skip ?_
  refine hK169 _ _ ?_
  refine wp_seq_k (fun K171 hK171 => ?_)
  refine wp_block ?_
  refine wp_seq_k (fun K172 hK172 => ?_)
  obtain ⟨p, hp⟩ : ∃ p, (rangeT (treeF (forestW (writesN l0 30)) (writeP p1).name) (writeP p1).key (keyL l2))[k]? = some p := ⟨(rangeT (treeF (forestW (writesN l0 30)) (writeP p1).name) (writeP p1).key (keyL l2))[k], List.getElem?_eq_getElem hc38⟩
  obtain ⟨hm1, hm2, hm3⟩ := mem_range (List.mem_of_getElem? hp)
  have hto := treeF_ok okf (writeP p1).name
  have hget : getF (forestW (writesN l0 30)) (writeP p1).name p.1 = some p.2 := mem_getT hto.rise hm1
  have hpo := hto.ok p hm1
  have hpk : 1 ≤ p.1.length ∧ p.1.length ≤ 16 := ⟨hpo.1, hpo.2.1⟩
  obtain ⟨b173, o174, ha175, xa177, xc178, xa181, xc182, c176, c180, r179, r183⟩ := Prs.get (r155.mono le167) hp
  refine region_late F160 [0, 1, 2, 3, 4, 5, 6, 7, 8, 9, 10, 12] 11 13 [14] [(8, .made (fun F' u => GetR (some p.2) 0 F' u)), (10, .made (fun F' u => FndV F' u (some p.2))), (12, .rel (NewAt w165 [(.bool false), (.slice none 0 0)] 38) (NewAt.stable _ _ _)), (11, .is (.int .i64 0))] (by kernel_rfl) (by kernel_rfl) rfl rfl rfl rfl ?_
  simp only [opsAt, List.getElem?_cons_succ, List.getElem?_cons_zero, List.map_cons, List.map_nil]
  refine gp_pure rfl rfl (.slice a112 (forestW (writesN l0 30)).length c113) (fun w184 hCw184 => pureAt_of (ex_move _)) ?_
  simp only [pS, pN, pA, pC, pZ]
  refine gp_pure rfl rfl (.pointer (some ⟨n132, 0, none⟩)) (fun w184 hCw184 => pureAt_of (ex_field (q := ⟨n132, 0, none⟩) rfl (fa_27_0 _ _))) ?_
  simp only [pS, pN, pA, pC, pZ]
  refine gp_pure rfl rfl (.slice xa123 (writeP p1).name.length xc124) (fun w184 hCw184 => pureAt_of (ex_load rfl (load1 (nagg_25 _) (St.cell (St.tells S166 hCw184) (i := 0) rfl rfl)))) ?_
  simp only [pS, pN, pA, pC, pZ]
  refine gp_pure rfl rfl (.slice a153 (rangeT (treeF (forestW (writesN l0 30)) (writeP p1).name) (writeP p1).key (keyL l2)).length c154) (fun w184 hCw184 => pureAt_of (ex_move _)) ?_
  simp only [pS, pN, pA, pC, pZ]
  refine gp_pure rfl rfl (.int .i64 ((k : Nat) : Int)) (fun w184 hCw184 => pureAt_of (ex_move _)) ?_
  simp only [pS, pN, pA, pC, pZ]
  refine gp_pure rfl rfl (.pointer (some ⟨b173, o174 + k * 2, none⟩)) (fun w184 hCw184 => pureAt_of (ex_at (i := k) (sz := 2) Try.underlying23 (sizeof_36 _) rfl ha175 rfl (by omega) rfl)) ?_
  simp only [pS, pN, pA, pC, pZ]
  refine gp_pure rfl rfl (.pointer (some ⟨b173, o174 + k * 2, none⟩)) (fun w184 hCw184 => pureAt_of (ex_field (q := ⟨b173, o174 + k * 2, none⟩) rfl (fa_36_0 _ _))) ?_
  simp only [pS, pN, pA, pC, pZ]
  refine gp_pure rfl rfl (.slice xa177 p.1.length xc178) (fun w184 hCw184 => pureAt_of (ex_load rfl (load1 (nagg_25 _) (St.fz (St.tells S166 hCw184) c176)))) ?_
  simp only [pS, pN, pA, pC, pZ]
  refine gp_rel rfl rfl (fun w184 hCw184 hF => does_call (ex_fn (vs := #[(.slice a112 (forestW (writesN l0 30)).length c113), (.slice xa123 (writeP p1).name.length xc124), (.slice xa177 p.1.length xc178)]) (map3 rfl rfl rfl) rfl (ent_30 _ _)) (call_made S166.sat hCw184 (getFIs_spec _ _ _ _ _ (forestW (writesN l0 30)) ((writeP p1).name) p.1 ((St.tells S166 hCw184)).sat (R110.mono (((le120.trans le141).trans le150).trans le167)) (r129.mono ((le141.trans le150).trans le167)) r179 okf (writeP_ok p1).name hpk hget))) (fun v185 => ?_)
  simp only [pS, pN, pA, pC, pZ]
  refine gp_pure rfl rfl v185 (fun w184 hCw184 => pureAt_of (ex_move _)) ?_
  simp only [pS, pN, pA, pC, pZ]
  refine gp_rel rfl rfl (fun w184 hCw184 hF_ => ?_) (fun v190 => ?_)
  ·obtain ⟨F186, g187, _, rfl, hx189⟩ := hF_.get 8 (by kernel_rfl) rfl rfl
   exact does_val (ex_extract rfl rfl) ⟨F186, g187, hx189⟩ (Below.refl _ _)
  simp only [pS, pN, pA, pC, pZ]
  refine gp_rel rfl rfl (fun w184 hCw184 _ => does_alloc (cs := [(.bool false), (.slice none 0 0)]) (zero_38 _) rfl hCw184) (fun v191 => ?_)
  simp only [pS, pN, pA, pC, pZ]
  refine gp_nil (late_ rfl rfl (v := (.int .i64 0)) (fun w184 hCw184 hF_ => ?_) ?_)
  ·obtain ⟨F192, g193, _, rfl, hx194⟩ := hF_.get 8 (by kernel_rfl) rfl rfl
   exact fun w1 => pureAt_of (ex_extract rfl rfl)
  intro w195 hC197 hF198
  obtain ⟨n199, rfl, hn200, hb201⟩ := hF198.getR 12 rfl rfl
  have hnbn199 : ∀ u ∈ [(.bool false), (.slice none 0 0)], ∀ x, u ≠ bv x := by intro u hu x; simp only [List.mem_cons, List.not_mem_nil, or_false] at hu; rcases hu with rfl | rfl <;> (unfold bv; simp)
  obtain ⟨F202, g203, R204⟩ := hF198.get 10 rfl rfl
  have g205 := g203.dropF S166.sat hn200
  have R206 := FndV.dropF g203.sat hb201 hnbn199 R204
  have S196 := St.addBlk (cs := [(.bool false), (.slice none 0 0)]) S166 g205 hn200 (dropF_at _ _) hb201
  have le208 : Le _ _ := g205.le S166.sat
  have R209 := R206
  generalize (dropF F202 n199) = F207 at *
  obtain ⟨a210, c211, rfl, r212⟩ := R209
  have r212 : Bs _ (.slice a210 p.2.length c211) p.2 := r212
  clear hF198
  have S196 : St W (whole W) w195 F207 [⟨n199, [(.bool false), (.slice none 0 0)], 38⟩, ⟨n132, [(.slice xa123 (writeP p1).name.length xc124), (.slice xa125 (writeP p1).key.length xc126), (.bool (writeP p1).gone), (.slice xa127 (writeP p1).value.length xc128)], 27⟩, ⟨n102, [(.slice a10 p1.name.length c10), (.slice a11 p1.key.length c11), (.slice a12 p1.value.length c12), (.bool p1.gone)], 30⟩] [] := S196
  simp only [pS, pN, pA, pC, pZ]
  refine stLate (i := 0) (v := (.agg #[(.bool true), (.slice a210 p.2.length c211)])) S196 rfl rfl rfl (size_38) (allc2 rfl rfl) (Nat.le_of_ble_eq_true rfl) (fun w213 S214 => ?_)
  have S214 : St W (whole W) w213 F207 [⟨n199, [(.bool true), (.slice a210 p.2.length c211)], 38⟩, ⟨n132, [(.slice xa123 (writeP p1).name.length xc124), (.slice xa125 (writeP p1).key.length xc126), (.bool (writeP p1).gone), (.slice xa127 (writeP p1).value.length xc128)], 27⟩, ⟨n102, [(.slice a10 p1.name.length c10), (.slice a11 p1.key.length c11), (.slice a12 p1.value.length c12), (.bool p1.gone)], 30⟩] [] := S214
  refine do_ rfl (.int .i64 0) (ex_assign _) ?_
  simp only [pS, pN, pA, pC, pZ]
  refine wl_nil (hK172 _ _ ?_)
  refine wp_seq_k (fun K215 hK215 => ?_)
  refine region_gw F207 39 [(15, .is (.bool true))] (by kernel_rfl) (by kernel_rfl) ?_
  simp only [List.take_succ_cons, List.take_zero]
  refine gw_pure rfl rfl (.int .i64 0) (fun w216 hCw216 => pureAt_of (ex_move _)) ?_
  simp only [pS, pN, pA, pC, pZ]
  refine gw_pure rfl rfl (.bool false) (fun w216 hCw216 => pureAt_of (ex_neq (b := false) rfl rfl (by decide))) ?_
  simp only [pS, pN, pA, pC, pZ]
  refine gw_pure rfl rfl (.bool false) (fun w216 hCw216 => pureAt_of (ex_move _)) ?_
  simp only [pS, pN, pA, pC, pZ]
  refine gw_pure rfl rfl (.pointer (some ⟨n199, 0, none⟩)) (fun w216 hCw216 => pureAt_of (ex_field (q := ⟨n199, 0, none⟩) rfl (fa_38_0 _ _))) ?_
  simp only [pS, pN, pA, pC, pZ]
  refine gw_pure rfl rfl (.bool true) (fun w216 hCw216 => pureAt_of (ex_load rfl (load1 (nagg_4 _) (St.cell (St.tells S214 hCw216) (i := 0) rfl rfl)))) ?_
  simp only [pS, pN, pA, pC, pZ]
  refine gw_pure rfl rfl (.bool false) (fun w216 hCw216 => pureAt_of (ex_not (b := true) rfl rfl)) ?_
  simp only [pS, pN, pA, pC, pZ]
  refine gw_pure rfl rfl (.bool false) (fun w216 hCw216 => pureAt_of (ex_pick (b := false) rfl)) ?_
  simp only [pS, pN, pA, pC, pZ]
  refine gw_pure rfl rfl (.bool false) (fun w216 hCw216 => pureAt_of (ex_move _)) ?_
  simp only [pS, pN, pA, pC, pZ]
  refine gw_pure rfl rfl (.pointer (some ⟨n199, 1, none⟩)) (fun w216 hCw216 => pureAt_of (ex_field (q := ⟨n199, 1, none⟩) rfl (fa_38_1 _ _))) ?_
  simp only [pS, pN, pA, pC, pZ]
  refine gw_pure rfl rfl (.slice a210 p.2.length c211) (fun w216 hCw216 => pureAt_of (ex_load rfl (load1 (nagg_25 _) (St.cell (St.tells S214 hCw216) (i := 0) rfl rfl)))) ?_
  simp only [pS, pN, pA, pC, pZ]
  refine gw_pure rfl rfl (.slice a153 (rangeT (treeF (forestW (writesN l0 30)) (writeP p1).name) (writeP p1).key (keyL l2)).length c154) (fun w216 hCw216 => pureAt_of (ex_move _)) ?_
  simp only [pS, pN, pA, pC, pZ]
  refine gw_pure rfl rfl (.int .i64 ((k : Nat) : Int)) (fun w216 hCw216 => pureAt_of (ex_move _)) ?_
  simp only [pS, pN, pA, pC, pZ]
  refine gw_pure rfl rfl (.pointer (some ⟨b173, o174 + k * 2, none⟩)) (fun w216 hCw216 => pureAt_of (ex_at (i := k) (sz := 2) Try.underlying23 (sizeof_36 _) rfl ha175 rfl (by omega) rfl)) ?_
  simp only [pS, pN, pA, pC, pZ]
  refine gw_pure rfl rfl (.pointer (some ⟨b173, o174 + k * 2 + 1, none⟩)) (fun w216 hCw216 => pureAt_of (ex_field (q := ⟨b173, o174 + k * 2 + 1, none⟩) rfl (fa_36_1 _ _))) ?_
  simp only [pS, pN, pA, pC, pZ]
  refine gw_pure rfl rfl (.slice xa181 p.2.length xc182) (fun w216 hCw216 => pureAt_of (ex_load rfl (load1 (nagg_25 _) (St.fz (St.tells S214 hCw216) (Le.cell le208 c180))))) ?_
  simp only [pS, pN, pA, pC, pZ]
  refine gw_const rfl rfl (v := (.bool true)) (fun w216 hCw216 _ => does_call (ex_fn (vs := #[(.slice a210 p.2.length c211), (.slice xa181 p.2.length xc182)]) (map2 rfl rfl) rfl (ent_31 _ _)) (call_tells (tells_bool (tells_same (same_spec _ _ _ _ p.2 p.2 ((St.tells S214 hCw216)).sat r212 (r183.mono le208))) (beq_iff_eq.2 (rfl))))) ?_
  simp only [pS, pN, pA, pC, pZ]
  refine gw_pure rfl rfl (.bool false) (fun w216 hCw216 => pureAt_of (ex_not (b := true) rfl rfl)) ?_
  simp only [pS, pN, pA, pC, pZ]
  refine gw_pure rfl rfl (.bool false) (fun w216 hCw216 => pureAt_of (ex_pick (b := false) rfl)) ?_
  simp only [pS, pN, pA, pC, pZ]
  refine gw_pure rfl rfl (.bool false) (fun w216 hCw216 => pureAt_of (ex_move _)) ?_
  simp only [pS, pN, pA, pC, pZ]
  refine gw_pure rfl rfl (.slice a153 (rangeT (treeF (forestW (writesN l0 30)) (writeP p1).name) (writeP p1).key (keyL l2)).length c154) (fun w216 hCw216 => pureAt_of (ex_move _)) ?_
  simp only [pS, pN, pA, pC, pZ]
  refine gw_pure rfl rfl (.int .i64 ((k : Nat) : Int)) (fun w216 hCw216 => pureAt_of (ex_move _)) ?_
  simp only [pS, pN, pA, pC, pZ]
  refine gw_pure rfl rfl (.pointer (some ⟨b173, o174 + k * 2, none⟩)) (fun w216 hCw216 => pureAt_of (ex_at (i := k) (sz := 2) Try.underlying23 (sizeof_36 _) rfl ha175 rfl (by omega) rfl)) ?_
  simp only [pS, pN, pA, pC, pZ]
  refine gw_pure rfl rfl (.pointer (some ⟨b173, o174 + k * 2, none⟩)) (fun w216 hCw216 => pureAt_of (ex_field (q := ⟨b173, o174 + k * 2, none⟩) rfl (fa_36_0 _ _))) ?_
  simp only [pS, pN, pA, pC, pZ]
  refine gw_pure rfl rfl (.slice xa177 p.1.length xc178) (fun w216 hCw216 => pureAt_of (ex_load rfl (load1 (nagg_25 _) (St.fz (St.tells S214 hCw216) (Le.cell le208 c176))))) ?_
  simp only [pS, pN, pA, pC, pZ]
  refine gw_pure rfl rfl (.string ⟨p.1.toArray⟩) (fun w216 hCw216 => pureAt_of (ex_convert (v := (.slice xa177 p.1.length xc178)) rfl (run_string Try.underlying25 Try.underlying5 Try.underlying9 ((St.tells S214 hCw216)).sat (r179.mono le208)))) ?_
  simp only [pS, pN, pA, pC, pZ]
  refine gw_pure rfl rfl (.pointer (some ⟨n132, 1, none⟩)) (fun w216 hCw216 => pureAt_of (ex_field (q := ⟨n132, 1, none⟩) rfl (fa_27_1 _ _))) ?_
  simp only [pS, pN, pA, pC, pZ]
  refine gw_pure rfl rfl (.slice xa125 (writeP p1).key.length xc126) (fun w216 hCw216 => pureAt_of (ex_load rfl (load1 (nagg_25 _) (St.cell (St.tells S214 hCw216) (i := 1) rfl rfl)))) ?_
  simp only [pS, pN, pA, pC, pZ]
  refine gw_pure rfl rfl (.string ⟨((writeP p1).key).toArray⟩) (fun w216 hCw216 => pureAt_of (ex_convert (v := (.slice xa125 (writeP p1).key.length xc126)) rfl (run_string Try.underlying25 Try.underlying5 Try.underlying9 ((St.tells S214 hCw216)).sat (r130.mono (((le141.trans le150).trans le167).trans le208))))) ?_
  simp only [pS, pN, pA, pC, pZ]
  refine gw_pure rfl rfl (.bool false) (fun w216 hCw216 => pureAt_of (ex_strop (op := .lss) (l := p.1) (m := ((writeP p1).key)) (b := false) (by simp) rfl rfl (hm2))) ?_
  simp only [pS, pN, pA, pC, pZ]
  refine gw_pure rfl rfl (.bool false) (fun w216 hCw216 => pureAt_of (ex_pick (b := false) rfl)) ?_
  simp only [pS, pN, pA, pC, pZ]
  refine gw_pure rfl rfl (.bool false) (fun w216 hCw216 => pureAt_of (ex_move _)) ?_
  simp only [pS, pN, pA, pC, pZ]
  refine gw_pure rfl rfl (.slice a153 (rangeT (treeF (forestW (writesN l0 30)) (writeP p1).name) (writeP p1).key (keyL l2)).length c154) (fun w216 hCw216 => pureAt_of (ex_move _)) ?_
  simp only [pS, pN, pA, pC, pZ]
  refine gw_pure rfl rfl (.int .i64 ((k : Nat) : Int)) (fun w216 hCw216 => pureAt_of (ex_move _)) ?_
  simp only [pS, pN, pA, pC, pZ]
  refine gw_pure rfl rfl (.pointer (some ⟨b173, o174 + k * 2, none⟩)) (fun w216 hCw216 => pureAt_of (ex_at (i := k) (sz := 2) Try.underlying23 (sizeof_36 _) rfl ha175 rfl (by omega) rfl)) ?_
  simp only [pS, pN, pA, pC, pZ]
  refine gw_pure rfl rfl (.pointer (some ⟨b173, o174 + k * 2, none⟩)) (fun w216 hCw216 => pureAt_of (ex_field (q := ⟨b173, o174 + k * 2, none⟩) rfl (fa_36_0 _ _))) ?_
  simp only [pS, pN, pA, pC, pZ]
  refine gw_pure rfl rfl (.slice xa177 p.1.length xc178) (fun w216 hCw216 => pureAt_of (ex_load rfl (load1 (nagg_25 _) (St.fz (St.tells S214 hCw216) (Le.cell le208 c176))))) ?_
  simp only [pS, pN, pA, pC, pZ]
  refine gw_pure rfl rfl (.string ⟨p.1.toArray⟩) (fun w216 hCw216 => pureAt_of (ex_convert (v := (.slice xa177 p.1.length xc178)) rfl (run_string Try.underlying25 Try.underlying5 Try.underlying9 ((St.tells S214 hCw216)).sat (r179.mono le208)))) ?_
  simp only [pS, pN, pA, pC, pZ]
  refine gw_pure rfl rfl (.slice xa144 (keyL l2).length xc145) (fun w216 hCw216 => pureAt_of (ex_move _)) ?_
  simp only [pS, pN, pA, pC, pZ]
  refine gw_pure rfl rfl (.string ⟨(keyL l2).toArray⟩) (fun w216 hCw216 => pureAt_of (ex_convert (v := (.slice xa144 (keyL l2).length xc145)) rfl (run_string Try.underlying25 Try.underlying5 Try.underlying9 ((St.tells S214 hCw216)).sat (R142.mono ((le150.trans le167).trans le208))))) ?_
  simp only [pS, pN, pA, pC, pZ]
  refine gw_nil ?_
  intro w217 hC219 hF220
  clear hF220
  have S218 := St.tells S214 hC219
  simp only [List.drop_succ_cons, List.drop_zero]
  refine do_ rfl (.bool false) (ex_strop (op := .gtr) (l := p.1) (m := (keyL l2)) (b := false) (by simp) rfl rfl (by show (!(Op.bytesLess _ _ || _ == _)) = false; rw [leq_less2, hm3]; rfl)) ?_
  simp only [pS, pN, pA, pC, pZ]
  refine do_ rfl (.bool false) (ex_pick (b := false) rfl) ?_
  simp only [pS, pN, pA, pC, pZ]
  refine wl_nil (hK215 _ _ ?_)
  refine wp_cond_false rfl ?_
  refine wp_skip ?_
  refine hK171 _ _ ?_
  refine region_wl ?_
  refine do_ rfl (.int .i64 ((k : Nat) : Int)) (ex_move _) ?_
  simp only [pS, pN, pA, pC, pZ]
  refine do_ rfl (.int .i64 (((k + 1) : Nat) : Int)) (ex_add (m := ((k : Nat) : Int)) (n := (1 : Int)) (r := (((k + 1) : Nat) : Int)) rfl rfl (by omega) (by omega) (by omega)) ?_
  simp only [pS, pN, pA, pC, pZ]
  refine do_ rfl (.int .i64 (((k + 1) : Nat) : Int)) (ex_assign _) ?_
  simp only [pS, pN, pA, pC, pZ]
  refine wl_nil ?_
  have S218 := St.drop S218 (L' := [⟨n132, [(.slice xa123 (writeP p1).name.length xc124), (.slice xa125 (writeP p1).key.length xc126), (.bool (writeP p1).gone), (.slice xa127 (writeP p1).value.length xc128)], 27⟩, ⟨n102, [(.slice a10 p1.name.length c10), (.slice a11 p1.key.length c11), (.slice a12 p1.value.length c12), (.bool p1.gone)], 30⟩]) (.cons _ (List.Sublist.refl _))
  exact hK168 _ _ _ (by omega) ⟨(k + 1), F207, _, rfl, rfl, rfl, S218, (le167.trans le208), (by omega)⟩
 ·refine do_ rfl (.bool false) (ex_lss (m := ((k : Nat) : Int)) (n := (((rangeT (treeF (forestW (writesN l0 30)) (writeP p1).name) (writeP p1).key (keyL l2)).length : Nat) : Int)) (b := false) rfl rfl (decide_eq_false (by omega))) ?_
  simp only [pS, pN, pA, pC, pZ]
  refine wl_nil (hK170 _ _ ?_)
  refine wp_cond_false rfl ?_
  refine wp_exit ?_
  refine hK158 _ _ ?_
  refine wp_seq_k (fun K221 hK221 => ?_)
  cases hg : getF (forestW (writesN l0 30)) (writeP p1).name (writeP p1).key with
  | none =>
   refine region_wl ?_
   refine do_ rfl (.slice a112 (forestW (writesN l0 30)).length c113) (ex_move _) ?_
   simp only [pS, pN, pA, pC, pZ]
   refine do_ rfl (.pointer (some ⟨n132, 0, none⟩)) (ex_field (q := ⟨n132, 0, none⟩) rfl (fa_27_0 _ _)) ?_
   simp only [pS, pN, pA, pC, pZ]
   refine do_ rfl (.slice xa123 (writeP p1).name.length xc124) (ex_load rfl (load1 (nagg_25 _) (St.cell S166 (i := 0) rfl rfl))) ?_
   simp only [pS, pN, pA, pC, pZ]
   refine do_ rfl (.pointer (some ⟨n132, 1, none⟩)) (ex_field (q := ⟨n132, 1, none⟩) rfl (fa_27_1 _ _)) ?_
   simp only [pS, pN, pA, pC, pZ]
   refine do_ rfl (.slice xa125 (writeP p1).key.length xc126) (ex_load rfl (load1 (nagg_25 _) (St.cell S166 (i := 0) rfl rfl))) ?_
   simp only [pS, pN, pA, pC, pZ]
   refine stGives S166 rfl (ex_fn (vs := #[(.slice a112 (forestW (writesN l0 30)).length c113), (.slice xa123 (writeP p1).name.length xc124), (.slice xa125 (writeP p1).key.length xc126)]) (map3 rfl rfl rfl) rfl (ent_30 _ _)) (getFIs_spec _ _ _ _ _ (forestW (writesN l0 30)) ((writeP p1).name) ((writeP p1).key) (S166).sat (R110.mono (((le120.trans le141).trans le150).trans le167)) (r129.mono ((le141.trans le150).trans le167)) (r130.mono ((le141.trans le150).trans le167)) okf (writeP_ok p1).name ⟨(writeP_ok p1).key1, (writeP_ok p1).key2⟩ hg) ?_
   intro v227 w222 F224 S223 le225 R226
   obtain ⟨_, rfl, R226⟩ := R226
   obtain ⟨a228, c229, rfl, r230⟩ := R226
   have r230 : Bs _ (.slice a228 ([] : By).length c229) ([] : By) := r230
   simp only [pS, pN, pA, pC, pZ]
   refine do_ rfl (.tuple #[(.agg #[(.bool false), (.slice a228 ([] : By).length c229)]), (.int .i64 0)]) (ex_move _) ?_
   simp only [pS, pN, pA, pC, pZ]
   refine do_ rfl (.agg #[(.bool false), (.slice a228 ([] : By).length c229)]) (ex_extract rfl rfl) ?_
   simp only [pS, pN, pA, pC, pZ]
   refine do_ rfl (.int .i64 0) (ex_extract rfl rfl) ?_
   simp only [pS, pN, pA, pC, pZ]
   refine stNew S223 (v := fun n => .pointer (some ⟨n, 0, none⟩)) rfl (ex_alloc (zero_38 _)) (fun n231 w232 S233 => ?_)
   simp only [pS, pN, pA, pC, pZ]
   have S233 : St W (whole W) w232 F224 [⟨n231, [(.bool false), (.slice none 0 0)], 38⟩, ⟨n132, [(.slice xa123 (writeP p1).name.length xc124), (.slice xa125 (writeP p1).key.length xc126), (.bool (writeP p1).gone), (.slice xa127 (writeP p1).value.length xc128)], 27⟩, ⟨n102, [(.slice a10 p1.name.length c10), (.slice a11 p1.key.length c11), (.slice a12 p1.value.length c12), (.bool p1.gone)], 30⟩] [] := S233
   refine stStore (i := 0) (v := (.agg #[(.bool false), (.slice a228 ([] : By).length c229)])) S233 rfl rfl rfl rfl (size_38) (allc2 rfl rfl) (Nat.le_of_ble_eq_true rfl) (fun w234 S235 => ?_)
   simp only [pS, pN, pA, pC, pZ]
   have S235 : St W (whole W) w234 F224 [⟨n231, [(.bool false), (.slice a228 ([] : By).length c229)], 38⟩, ⟨n132, [(.slice xa123 (writeP p1).name.length xc124), (.slice xa125 (writeP p1).key.length xc126), (.bool (writeP p1).gone), (.slice xa127 (writeP p1).value.length xc128)], 27⟩, ⟨n102, [(.slice a10 p1.name.length c10), (.slice a11 p1.key.length c11), (.slice a12 p1.value.length c12), (.bool p1.gone)], 30⟩] [] := S235
   refine do_ rfl (.int .i64 0) (ex_assign _) ?_
   simp only [pS, pN, pA, pC, pZ]
   refine wl_nil (hK221 _ _ ?_)
   refine wp_seq_k (fun K236 hK236 => region_wl ?_)
   refine do_ rfl (.slice a112 (forestW (writesN l0 30)).length c113) (ex_move _) ?_
   simp only [pS, pN, pA, pC, pZ]
   refine do_ rfl (.slice xa144 (keyL l2).length xc145) (ex_move _) ?_
   simp only [pS, pN, pA, pC, pZ]
   refine do_ rfl (.slice xa144 (keyL l2).length xc145) (ex_move _) ?_
   simp only [pS, pN, pA, pC, pZ]
   refine stGives S235 rfl (ex_fn (vs := #[(.slice a112 (forestW (writesN l0 30)).length c113), (.slice none 0 0), (.slice xa144 (keyL l2).length xc145), (.slice xa144 (keyL l2).length xc145)]) (map4 rfl rfl rfl rfl) rfl (ent_29 _ _)) (rangeFBad_spec _ _ _ _ _ (forestW (writesN l0 30)) (keyL l2) (keyL l2) (S235).sat (R110.mono ((((le120.trans le141).trans le150).trans le167).trans le225)) (R142.mono ((le150.trans le167).trans le225)) (R142.mono ((le150.trans le167).trans le225)) okf) ?_
   intro v242 w237 F239 S238 le240 R241
   obtain ⟨_, rfl, r245⟩ := R241
   obtain ⟨a243, c244, rfl, h246, h247⟩ := Sl.shape r245
   unfold maxLen at h247
   simp only [pS, pN, pA, pC, pZ]
   refine do_ rfl (.tuple #[(.slice a243 ([] : List Pr).length c244), (.int .i64 1)]) (ex_move _) ?_
   simp only [pS, pN, pA, pC, pZ]
   refine do_ rfl (.slice a243 ([] : List Pr).length c244) (ex_extract rfl rfl) ?_
   simp only [pS, pN, pA, pC, pZ]
   refine do_ rfl (.int .i64 1) (ex_extract rfl rfl) ?_
   simp only [pS, pN, pA, pC, pZ]
   refine do_ rfl (.slice a243 ([] : List Pr).length c244) (ex_assign _) ?_
   simp only [pS, pN, pA, pC, pZ]
   refine do_ rfl (.int .i64 1) (ex_assign _) ?_
   simp only [pS, pN, pA, pC, pZ]
   refine wl_nil (hK236 _ _ ?_)
   refine wp_seq_k (fun K248 hK248 => ?_)
   refine region_gw F239 33 [] (by kernel_rfl) (by kernel_rfl) ?_
   simp only [List.take_succ_cons, List.take_zero]
   refine gw_pure rfl rfl (.int .i64 0) (fun w249 hCw249 => pureAt_of (ex_move _)) ?_
   simp only [pS, pN, pA, pC, pZ]
   refine gw_pure rfl rfl (.bool true) (fun w249 hCw249 => pureAt_of (ex_eql (b := true) rfl rfl (by decide))) ?_
   simp only [pS, pN, pA, pC, pZ]
   refine gw_pure rfl rfl (.bool true) (fun w249 hCw249 => pureAt_of (ex_move _)) ?_
   simp only [pS, pN, pA, pC, pZ]
   refine gw_pure rfl rfl (.int .i64 0) (fun w249 hCw249 => pureAt_of (ex_move _)) ?_
   simp only [pS, pN, pA, pC, pZ]
   refine gw_pure rfl rfl (.bool true) (fun w249 hCw249 => pureAt_of (ex_eql (b := true) rfl rfl (by decide))) ?_
   simp only [pS, pN, pA, pC, pZ]
   refine gw_pure rfl rfl (.bool true) (fun w249 hCw249 => pureAt_of (ex_pick (b := true) rfl)) ?_
   simp only [pS, pN, pA, pC, pZ]
   refine gw_pure rfl rfl (.bool true) (fun w249 hCw249 => pureAt_of (ex_move _)) ?_
   simp only [pS, pN, pA, pC, pZ]
   refine gw_pure rfl rfl (.int .i64 1) (fun w249 hCw249 => pureAt_of (ex_move _)) ?_
   simp only [pS, pN, pA, pC, pZ]
   refine gw_pure rfl rfl (.bool true) (fun w249 hCw249 => pureAt_of (ex_eql (b := true) rfl rfl (by decide))) ?_
   simp only [pS, pN, pA, pC, pZ]
   refine gw_pure rfl rfl (.bool true) (fun w249 hCw249 => pureAt_of (ex_pick (b := true) rfl)) ?_
   simp only [pS, pN, pA, pC, pZ]
   refine gw_pure rfl rfl (.bool true) (fun w249 hCw249 => pureAt_of (ex_move _)) ?_
   simp only [pS, pN, pA, pC, pZ]
   refine gw_pure rfl rfl (.pointer (some ⟨n231, 0, none⟩)) (fun w249 hCw249 => pureAt_of (ex_field (q := ⟨n231, 0, none⟩) rfl (fa_38_0 _ _))) ?_
   simp only [pS, pN, pA, pC, pZ]
   refine gw_pure rfl rfl (.bool false) (fun w249 hCw249 => pureAt_of (ex_load rfl (load1 (nagg_4 _) (St.cell (St.tells S238 hCw249) (i := 0) rfl rfl)))) ?_
   simp only [pS, pN, pA, pC, pZ]
   refine gw_pure rfl rfl (.bool true) (fun w249 hCw249 => pureAt_of (ex_not (b := false) rfl rfl)) ?_
   simp only [pS, pN, pA, pC, pZ]
   refine gw_pure rfl rfl (.bool true) (fun w249 hCw249 => pureAt_of (ex_move _)) ?_
   simp only [pS, pN, pA, pC, pZ]
   refine gw_skip (wanted_no rfl rfl rfl (c := true) rfl (by decide)) ?_
   simp only [pS, pN, pA, pC, pZ]
   refine gw_skip (wanted_no rfl rfl rfl (c := true) rfl (by decide)) ?_
   simp only [pS, pN, pA, pC, pZ]
   refine gw_skip (wanted_no rfl rfl rfl (c := true) rfl (by decide)) ?_
   simp only [pS, pN, pA, pC, pZ]
   refine gw_skip (wanted_no rfl rfl rfl (c := true) rfl (by decide)) ?_
   simp only [pS, pN, pA, pC, pZ]
   refine gw_skip (wanted_no rfl rfl rfl (c := true) rfl (by decide)) ?_
   simp only [pS, pN, pA, pC, pZ]
   refine gw_skip (wanted_no rfl rfl rfl (c := true) rfl (by decide)) ?_
   simp only [pS, pN, pA, pC, pZ]
   refine gw_pure rfl rfl (.bool true) (fun w249 hCw249 => pureAt_of (ex_pick (b := true) rfl)) ?_
   simp only [pS, pN, pA, pC, pZ]
   refine gw_pure rfl rfl (.bool true) (fun w249 hCw249 => pureAt_of (ex_move _)) ?_
   simp only [pS, pN, pA, pC, pZ]
   refine gw_skip (wanted_no rfl rfl rfl (c := true) rfl (by decide)) ?_
   simp only [pS, pN, pA, pC, pZ]
   refine gw_skip (wanted_no rfl rfl rfl (c := true) rfl (by decide)) ?_
   simp only [pS, pN, pA, pC, pZ]
   refine gw_skip (wanted_no rfl rfl rfl (c := true) rfl (by decide)) ?_
   simp only [pS, pN, pA, pC, pZ]
   refine gw_skip (wanted_no rfl rfl rfl (c := true) rfl (by decide)) ?_
   simp only [pS, pN, pA, pC, pZ]
   refine gw_skip (wanted_un rfl rfl rfl rfl) ?_
   simp only [pS, pN, pA, pC, pZ]
   refine gw_skip (wanted_un rfl rfl rfl rfl) ?_
   simp only [pS, pN, pA, pC, pZ]
   refine gw_skip (wanted_un rfl rfl rfl rfl) ?_
   simp only [pS, pN, pA, pC, pZ]
   refine gw_skip (wanted_un rfl rfl rfl rfl) ?_
   simp only [pS, pN, pA, pC, pZ]
   refine gw_skip (wanted_un rfl rfl rfl rfl) ?_
   simp only [pS, pN, pA, pC, pZ]
   refine gw_skip (wanted_un rfl rfl rfl rfl) ?_
   simp only [pS, pN, pA, pC, pZ]
   refine gw_nil ?_
   intro w250 hC252 hF253
   clear hF253
   have S251 := St.tells S238 hC252
   simp only [List.drop_succ_cons, List.drop_zero]
   refine doN (wanted_un rfl rfl rfl rfl) ?_
   simp only [pS, pN, pA, pC, pZ]
   refine doN (wanted_no rfl rfl rfl (c := true) rfl (by decide)) ?_
   simp only [pS, pN, pA, pC, pZ]
   refine do_ rfl (.bool true) (ex_pick (b := true) rfl) ?_
   simp only [pS, pN, pA, pC, pZ]
   refine do_ rfl (.bool true) (ex_pick (b := true) rfl) ?_
   simp only [pS, pN, pA, pC, pZ]
   refine do_ rfl (.bool true) (ex_assign _) ?_
   simp only [pS, pN, pA, pC, pZ]
   refine wl_nil (hK248 _ _ ?_)
   refine wp_ret ?_
   (try simp only [Exit.then, Exit.inBlock, ↓reduceIte, Nat.reduceEqDiff])
   refine bodyPost_ret (v := (.bool true)) ?_ rfl ?_
   ·exact res_t rfl rfl
   ·exact ⟨rfl, S251.gr.below⟩
  | some vv =>
   refine region_wl ?_
   refine do_ rfl (.slice a112 (forestW (writesN l0 30)).length c113) (ex_move _) ?_
   simp only [pS, pN, pA, pC, pZ]
   refine do_ rfl (.pointer (some ⟨n132, 0, none⟩)) (ex_field (q := ⟨n132, 0, none⟩) rfl (fa_27_0 _ _)) ?_
   simp only [pS, pN, pA, pC, pZ]
   refine do_ rfl (.slice xa123 (writeP p1).name.length xc124) (ex_load rfl (load1 (nagg_25 _) (St.cell S166 (i := 0) rfl rfl))) ?_
   simp only [pS, pN, pA, pC, pZ]
   refine do_ rfl (.pointer (some ⟨n132, 1, none⟩)) (ex_field (q := ⟨n132, 1, none⟩) rfl (fa_27_1 _ _)) ?_
   simp only [pS, pN, pA, pC, pZ]
   refine do_ rfl (.slice xa125 (writeP p1).key.length xc126) (ex_load rfl (load1 (nagg_25 _) (St.cell S166 (i := 0) rfl rfl))) ?_
   simp only [pS, pN, pA, pC, pZ]
   refine stGives S166 rfl (ex_fn (vs := #[(.slice a112 (forestW (writesN l0 30)).length c113), (.slice xa123 (writeP p1).name.length xc124), (.slice xa125 (writeP p1).key.length xc126)]) (map3 rfl rfl rfl) rfl (ent_30 _ _)) (getFIs_spec _ _ _ _ _ (forestW (writesN l0 30)) ((writeP p1).name) ((writeP p1).key) (S166).sat (R110.mono (((le120.trans le141).trans le150).trans le167)) (r129.mono ((le141.trans le150).trans le167)) (r130.mono ((le141.trans le150).trans le167)) okf (writeP_ok p1).name ⟨(writeP_ok p1).key1, (writeP_ok p1).key2⟩ hg) ?_
   intro v259 w254 F256 S255 le257 R258
   obtain ⟨_, rfl, R258⟩ := R258
   obtain ⟨a260, c261, rfl, r262⟩ := R258
   have r262 : Bs _ (.slice a260 vv.length c261) vv := r262
   simp only [pS, pN, pA, pC, pZ]
   refine do_ rfl (.tuple #[(.agg #[(.bool true), (.slice a260 vv.length c261)]), (.int .i64 0)]) (ex_move _) ?_
   simp only [pS, pN, pA, pC, pZ]
   refine do_ rfl (.agg #[(.bool true), (.slice a260 vv.length c261)]) (ex_extract rfl rfl) ?_
   simp only [pS, pN, pA, pC, pZ]
   refine do_ rfl (.int .i64 0) (ex_extract rfl rfl) ?_
   simp only [pS, pN, pA, pC, pZ]
   refine stNew S255 (v := fun n => .pointer (some ⟨n, 0, none⟩)) rfl (ex_alloc (zero_38 _)) (fun n263 w264 S265 => ?_)
   simp only [pS, pN, pA, pC, pZ]
   have S265 : St W (whole W) w264 F256 [⟨n263, [(.bool false), (.slice none 0 0)], 38⟩, ⟨n132, [(.slice xa123 (writeP p1).name.length xc124), (.slice xa125 (writeP p1).key.length xc126), (.bool (writeP p1).gone), (.slice xa127 (writeP p1).value.length xc128)], 27⟩, ⟨n102, [(.slice a10 p1.name.length c10), (.slice a11 p1.key.length c11), (.slice a12 p1.value.length c12), (.bool p1.gone)], 30⟩] [] := S265
   refine stStore (i := 0) (v := (.agg #[(.bool true), (.slice a260 vv.length c261)])) S265 rfl rfl rfl rfl (size_38) (allc2 rfl rfl) (Nat.le_of_ble_eq_true rfl) (fun w266 S267 => ?_)
   simp only [pS, pN, pA, pC, pZ]
   have S267 : St W (whole W) w266 F256 [⟨n263, [(.bool true), (.slice a260 vv.length c261)], 38⟩, ⟨n132, [(.slice xa123 (writeP p1).name.length xc124), (.slice xa125 (writeP p1).key.length xc126), (.bool (writeP p1).gone), (.slice xa127 (writeP p1).value.length xc128)], 27⟩, ⟨n102, [(.slice a10 p1.name.length c10), (.slice a11 p1.key.length c11), (.slice a12 p1.value.length c12), (.bool p1.gone)], 30⟩] [] := S267
   refine do_ rfl (.int .i64 0) (ex_assign _) ?_
   simp only [pS, pN, pA, pC, pZ]
   refine wl_nil (hK221 _ _ ?_)
   refine wp_seq_k (fun K268 hK268 => region_wl ?_)
   refine do_ rfl (.slice a112 (forestW (writesN l0 30)).length c113) (ex_move _) ?_
   simp only [pS, pN, pA, pC, pZ]
   refine do_ rfl (.slice xa144 (keyL l2).length xc145) (ex_move _) ?_
   simp only [pS, pN, pA, pC, pZ]
   refine do_ rfl (.slice xa144 (keyL l2).length xc145) (ex_move _) ?_
   simp only [pS, pN, pA, pC, pZ]
   refine stGives S267 rfl (ex_fn (vs := #[(.slice a112 (forestW (writesN l0 30)).length c113), (.slice none 0 0), (.slice xa144 (keyL l2).length xc145), (.slice xa144 (keyL l2).length xc145)]) (map4 rfl rfl rfl rfl) rfl (ent_29 _ _)) (rangeFBad_spec _ _ _ _ _ (forestW (writesN l0 30)) (keyL l2) (keyL l2) (S267).sat (R110.mono ((((le120.trans le141).trans le150).trans le167).trans le257)) (R142.mono ((le150.trans le167).trans le257)) (R142.mono ((le150.trans le167).trans le257)) okf) ?_
   intro v274 w269 F271 S270 le272 R273
   obtain ⟨_, rfl, r277⟩ := R273
   obtain ⟨a275, c276, rfl, h278, h279⟩ := Sl.shape r277
   unfold maxLen at h279
   simp only [pS, pN, pA, pC, pZ]
   refine do_ rfl (.tuple #[(.slice a275 ([] : List Pr).length c276), (.int .i64 1)]) (ex_move _) ?_
   simp only [pS, pN, pA, pC, pZ]
   refine do_ rfl (.slice a275 ([] : List Pr).length c276) (ex_extract rfl rfl) ?_
   simp only [pS, pN, pA, pC, pZ]
   refine do_ rfl (.int .i64 1) (ex_extract rfl rfl) ?_
   simp only [pS, pN, pA, pC, pZ]
   refine do_ rfl (.slice a275 ([] : List Pr).length c276) (ex_assign _) ?_
   simp only [pS, pN, pA, pC, pZ]
   refine do_ rfl (.int .i64 1) (ex_assign _) ?_
   simp only [pS, pN, pA, pC, pZ]
   refine wl_nil (hK268 _ _ ?_)
   refine wp_seq_k (fun K280 hK280 => ?_)
   by_cases hlt : Lt (keyL l2) (writeP p1).key
   ·refine region_gw F271 33 [] (by kernel_rfl) (by kernel_rfl) ?_
    simp only [List.take_succ_cons, List.take_zero]
    refine gw_pure rfl rfl (.int .i64 0) (fun w281 hCw281 => pureAt_of (ex_move _)) ?_
    simp only [pS, pN, pA, pC, pZ]
    refine gw_pure rfl rfl (.bool true) (fun w281 hCw281 => pureAt_of (ex_eql (b := true) rfl rfl (by decide))) ?_
    simp only [pS, pN, pA, pC, pZ]
    refine gw_pure rfl rfl (.bool true) (fun w281 hCw281 => pureAt_of (ex_move _)) ?_
    simp only [pS, pN, pA, pC, pZ]
    refine gw_pure rfl rfl (.int .i64 0) (fun w281 hCw281 => pureAt_of (ex_move _)) ?_
    simp only [pS, pN, pA, pC, pZ]
    refine gw_pure rfl rfl (.bool true) (fun w281 hCw281 => pureAt_of (ex_eql (b := true) rfl rfl (by decide))) ?_
    simp only [pS, pN, pA, pC, pZ]
    refine gw_pure rfl rfl (.bool true) (fun w281 hCw281 => pureAt_of (ex_pick (b := true) rfl)) ?_
    simp only [pS, pN, pA, pC, pZ]
    refine gw_pure rfl rfl (.bool true) (fun w281 hCw281 => pureAt_of (ex_move _)) ?_
    simp only [pS, pN, pA, pC, pZ]
    refine gw_pure rfl rfl (.int .i64 1) (fun w281 hCw281 => pureAt_of (ex_move _)) ?_
    simp only [pS, pN, pA, pC, pZ]
    refine gw_pure rfl rfl (.bool true) (fun w281 hCw281 => pureAt_of (ex_eql (b := true) rfl rfl (by decide))) ?_
    simp only [pS, pN, pA, pC, pZ]
    refine gw_pure rfl rfl (.bool true) (fun w281 hCw281 => pureAt_of (ex_pick (b := true) rfl)) ?_
    simp only [pS, pN, pA, pC, pZ]
    refine gw_pure rfl rfl (.bool true) (fun w281 hCw281 => pureAt_of (ex_move _)) ?_
    simp only [pS, pN, pA, pC, pZ]
    refine gw_pure rfl rfl (.pointer (some ⟨n263, 0, none⟩)) (fun w281 hCw281 => pureAt_of (ex_field (q := ⟨n263, 0, none⟩) rfl (fa_38_0 _ _))) ?_
    simp only [pS, pN, pA, pC, pZ]
    refine gw_pure rfl rfl (.bool true) (fun w281 hCw281 => pureAt_of (ex_load rfl (load1 (nagg_4 _) (St.cell (St.tells S270 hCw281) (i := 0) rfl rfl)))) ?_
    simp only [pS, pN, pA, pC, pZ]
    refine gw_pure rfl rfl (.bool false) (fun w281 hCw281 => pureAt_of (ex_not (b := true) rfl rfl)) ?_
    simp only [pS, pN, pA, pC, pZ]
    refine gw_pure rfl rfl (.bool false) (fun w281 hCw281 => pureAt_of (ex_move _)) ?_
    simp only [pS, pN, pA, pC, pZ]
    refine gw_pure rfl rfl (.slice xa144 (keyL l2).length xc145) (fun w281 hCw281 => pureAt_of (ex_move _)) ?_
    simp only [pS, pN, pA, pC, pZ]
    refine gw_pure rfl rfl (.string ⟨(keyL l2).toArray⟩) (fun w281 hCw281 => pureAt_of (ex_convert (v := (.slice xa144 (keyL l2).length xc145)) rfl (run_string Try.underlying25 Try.underlying5 Try.underlying9 ((St.tells S270 hCw281)).sat (R142.mono (((le150.trans le167).trans le257).trans le272))))) ?_
    simp only [pS, pN, pA, pC, pZ]
    refine gw_pure rfl rfl (.pointer (some ⟨n132, 1, none⟩)) (fun w281 hCw281 => pureAt_of (ex_field (q := ⟨n132, 1, none⟩) rfl (fa_27_1 _ _))) ?_
    simp only [pS, pN, pA, pC, pZ]
    refine gw_pure rfl rfl (.slice xa125 (writeP p1).key.length xc126) (fun w281 hCw281 => pureAt_of (ex_load rfl (load1 (nagg_25 _) (St.cell (St.tells S270 hCw281) (i := 1) rfl rfl)))) ?_
    simp only [pS, pN, pA, pC, pZ]
    refine gw_pure rfl rfl (.string ⟨((writeP p1).key).toArray⟩) (fun w281 hCw281 => pureAt_of (ex_convert (v := (.slice xa125 (writeP p1).key.length xc126)) rfl (run_string Try.underlying25 Try.underlying5 Try.underlying9 ((St.tells S270 hCw281)).sat (r130.mono ((((le141.trans le150).trans le167).trans le257).trans le272))))) ?_
    simp only [pS, pN, pA, pC, pZ]
    refine gw_pure rfl rfl (.bool true) (fun w281 hCw281 => pureAt_of (ex_strop (op := .lss) (l := (keyL l2)) (m := ((writeP p1).key)) (b := true) (by simp) rfl rfl (hlt))) ?_
    simp only [pS, pN, pA, pC, pZ]
    refine gw_pure rfl rfl (.bool true) (fun w281 hCw281 => pureAt_of (ex_pick (b := false) rfl)) ?_
    simp only [pS, pN, pA, pC, pZ]
    refine gw_pure rfl rfl (.bool true) (fun w281 hCw281 => pureAt_of (ex_move _)) ?_
    simp only [pS, pN, pA, pC, pZ]
    refine gw_skip (wanted_no rfl rfl rfl (c := true) rfl (by decide)) ?_
    simp only [pS, pN, pA, pC, pZ]
    refine gw_skip (wanted_no rfl rfl rfl (c := true) rfl (by decide)) ?_
    simp only [pS, pN, pA, pC, pZ]
    refine gw_skip (wanted_no rfl rfl rfl (c := true) rfl (by decide)) ?_
    simp only [pS, pN, pA, pC, pZ]
    refine gw_skip (wanted_no rfl rfl rfl (c := true) rfl (by decide)) ?_
    simp only [pS, pN, pA, pC, pZ]
    refine gw_skip (wanted_un rfl rfl rfl rfl) ?_
    simp only [pS, pN, pA, pC, pZ]
    refine gw_skip (wanted_un rfl rfl rfl rfl) ?_
    simp only [pS, pN, pA, pC, pZ]
    refine gw_skip (wanted_un rfl rfl rfl rfl) ?_
    simp only [pS, pN, pA, pC, pZ]
    refine gw_skip (wanted_un rfl rfl rfl rfl) ?_
    simp only [pS, pN, pA, pC, pZ]
    refine gw_skip (wanted_un rfl rfl rfl rfl) ?_
    simp only [pS, pN, pA, pC, pZ]
    refine gw_skip (wanted_un rfl rfl rfl rfl) ?_
    simp only [pS, pN, pA, pC, pZ]
    refine gw_nil ?_
    intro w282 hC284 hF285
    clear hF285
    have S283 := St.tells S270 hC284
    simp only [List.drop_succ_cons, List.drop_zero]
    refine doN (wanted_un rfl rfl rfl rfl) ?_
    simp only [pS, pN, pA, pC, pZ]
    refine doN (wanted_no rfl rfl rfl (c := true) rfl (by decide)) ?_
    simp only [pS, pN, pA, pC, pZ]
    refine do_ rfl (.bool true) (ex_pick (b := true) rfl) ?_
    simp only [pS, pN, pA, pC, pZ]
    refine do_ rfl (.bool true) (ex_pick (b := true) rfl) ?_
    simp only [pS, pN, pA, pC, pZ]
    refine do_ rfl (.bool true) (ex_assign _) ?_
    simp only [pS, pN, pA, pC, pZ]
    refine wl_nil (hK280 _ _ ?_)
    refine wp_ret ?_
    (try simp only [Exit.then, Exit.inBlock, ↓reduceIte, Nat.reduceEqDiff])
    refine bodyPost_ret (v := (.bool true)) ?_ rfl ?_
    ·exact res_t rfl rfl
    ·exact ⟨rfl, S283.gr.below⟩
   ·obtain ⟨q, hq, hq1⟩ := first_range (treeF_ok okf (writeP p1).name).rise hg hlt
    have hq0 : 0 < (rangeT (treeF (forestW (writesN l0 30)) (writeP p1).name) (writeP p1).key (keyL l2)).length := (List.getElem?_eq_some_iff.1 hq).1
    obtain ⟨b286, o287, ha288, xa290, xc291, xa294, xc295, c289, c293, r292, r296⟩ := Prs.get (r155.mono ((le167.trans le257).trans le272)) hq
    refine region_gw F271 33 [] (by kernel_rfl) (by kernel_rfl) ?_
    simp only [List.take_succ_cons, List.take_zero]
    refine gw_pure rfl rfl (.int .i64 0) (fun w297 hCw297 => pureAt_of (ex_move _)) ?_
    simp only [pS, pN, pA, pC, pZ]
    refine gw_pure rfl rfl (.bool true) (fun w297 hCw297 => pureAt_of (ex_eql (b := true) rfl rfl (by decide))) ?_
    simp only [pS, pN, pA, pC, pZ]
    refine gw_pure rfl rfl (.bool true) (fun w297 hCw297 => pureAt_of (ex_move _)) ?_
    simp only [pS, pN, pA, pC, pZ]
    refine gw_pure rfl rfl (.int .i64 0) (fun w297 hCw297 => pureAt_of (ex_move _)) ?_
    simp only [pS, pN, pA, pC, pZ]
    refine gw_pure rfl rfl (.bool true) (fun w297 hCw297 => pureAt_of (ex_eql (b := true) rfl rfl (by decide))) ?_
    simp only [pS, pN, pA, pC, pZ]
    refine gw_pure rfl rfl (.bool true) (fun w297 hCw297 => pureAt_of (ex_pick (b := true) rfl)) ?_
    simp only [pS, pN, pA, pC, pZ]
    refine gw_pure rfl rfl (.bool true) (fun w297 hCw297 => pureAt_of (ex_move _)) ?_
    simp only [pS, pN, pA, pC, pZ]
    refine gw_pure rfl rfl (.int .i64 1) (fun w297 hCw297 => pureAt_of (ex_move _)) ?_
    simp only [pS, pN, pA, pC, pZ]
    refine gw_pure rfl rfl (.bool true) (fun w297 hCw297 => pureAt_of (ex_eql (b := true) rfl rfl (by decide))) ?_
    simp only [pS, pN, pA, pC, pZ]
    refine gw_pure rfl rfl (.bool true) (fun w297 hCw297 => pureAt_of (ex_pick (b := true) rfl)) ?_
    simp only [pS, pN, pA, pC, pZ]
    refine gw_pure rfl rfl (.bool true) (fun w297 hCw297 => pureAt_of (ex_move _)) ?_
    simp only [pS, pN, pA, pC, pZ]
    refine gw_pure rfl rfl (.pointer (some ⟨n263, 0, none⟩)) (fun w297 hCw297 => pureAt_of (ex_field (q := ⟨n263, 0, none⟩) rfl (fa_38_0 _ _))) ?_
    simp only [pS, pN, pA, pC, pZ]
    refine gw_pure rfl rfl (.bool true) (fun w297 hCw297 => pureAt_of (ex_load rfl (load1 (nagg_4 _) (St.cell (St.tells S270 hCw297) (i := 0) rfl rfl)))) ?_
    simp only [pS, pN, pA, pC, pZ]
    refine gw_pure rfl rfl (.bool false) (fun w297 hCw297 => pureAt_of (ex_not (b := true) rfl rfl)) ?_
    simp only [pS, pN, pA, pC, pZ]
    refine gw_pure rfl rfl (.bool false) (fun w297 hCw297 => pureAt_of (ex_move _)) ?_
    simp only [pS, pN, pA, pC, pZ]
    refine gw_pure rfl rfl (.slice xa144 (keyL l2).length xc145) (fun w297 hCw297 => pureAt_of (ex_move _)) ?_
    simp only [pS, pN, pA, pC, pZ]
    refine gw_pure rfl rfl (.string ⟨(keyL l2).toArray⟩) (fun w297 hCw297 => pureAt_of (ex_convert (v := (.slice xa144 (keyL l2).length xc145)) rfl (run_string Try.underlying25 Try.underlying5 Try.underlying9 ((St.tells S270 hCw297)).sat (R142.mono (((le150.trans le167).trans le257).trans le272))))) ?_
    simp only [pS, pN, pA, pC, pZ]
    refine gw_pure rfl rfl (.pointer (some ⟨n132, 1, none⟩)) (fun w297 hCw297 => pureAt_of (ex_field (q := ⟨n132, 1, none⟩) rfl (fa_27_1 _ _))) ?_
    simp only [pS, pN, pA, pC, pZ]
    refine gw_pure rfl rfl (.slice xa125 (writeP p1).key.length xc126) (fun w297 hCw297 => pureAt_of (ex_load rfl (load1 (nagg_25 _) (St.cell (St.tells S270 hCw297) (i := 1) rfl rfl)))) ?_
    simp only [pS, pN, pA, pC, pZ]
    refine gw_pure rfl rfl (.string ⟨((writeP p1).key).toArray⟩) (fun w297 hCw297 => pureAt_of (ex_convert (v := (.slice xa125 (writeP p1).key.length xc126)) rfl (run_string Try.underlying25 Try.underlying5 Try.underlying9 ((St.tells S270 hCw297)).sat (r130.mono ((((le141.trans le150).trans le167).trans le257).trans le272))))) ?_
    simp only [pS, pN, pA, pC, pZ]
    refine gw_pure rfl rfl (.bool false) (fun w297 hCw297 => pureAt_of (ex_strop (op := .lss) (l := (keyL l2)) (m := ((writeP p1).key)) (b := false) (by simp) rfl rfl (by show Op.bytesLess _ _ = false; simpa using hlt))) ?_
    simp only [pS, pN, pA, pC, pZ]
    refine gw_pure rfl rfl (.bool false) (fun w297 hCw297 => pureAt_of (ex_pick (b := false) rfl)) ?_
    simp only [pS, pN, pA, pC, pZ]
    refine gw_pure rfl rfl (.bool false) (fun w297 hCw297 => pureAt_of (ex_move _)) ?_
    simp only [pS, pN, pA, pC, pZ]
    refine gw_pure rfl rfl (.slice a153 (rangeT (treeF (forestW (writesN l0 30)) (writeP p1).name) (writeP p1).key (keyL l2)).length c154) (fun w297 hCw297 => pureAt_of (ex_move _)) ?_
    simp only [pS, pN, pA, pC, pZ]
    refine gw_pure rfl rfl (.int .i64 (((rangeT (treeF (forestW (writesN l0 30)) (writeP p1).name) (writeP p1).key (keyL l2)).length : Nat) : Int)) (fun w297 hCw297 => pureAt_of (ex_len Try.underlying23 rfl)) ?_
    simp only [pS, pN, pA, pC, pZ]
    refine gw_pure rfl rfl (.bool true) (fun w297 hCw297 => pureAt_of (ex_gtr (m := (((rangeT (treeF (forestW (writesN l0 30)) (writeP p1).name) (writeP p1).key (keyL l2)).length : Nat) : Int)) (n := (0 : Int)) (b := true) rfl rfl (decide_eq_true (by omega)))) ?_
    simp only [pS, pN, pA, pC, pZ]
    refine gw_pure rfl rfl (.bool true) (fun w297 hCw297 => pureAt_of (ex_move _)) ?_
    simp only [pS, pN, pA, pC, pZ]
    refine gw_pure rfl rfl (.slice a153 (rangeT (treeF (forestW (writesN l0 30)) (writeP p1).name) (writeP p1).key (keyL l2)).length c154) (fun w297 hCw297 => pureAt_of (ex_move _)) ?_
    simp only [pS, pN, pA, pC, pZ]
    refine gw_pure rfl rfl (.pointer (some ⟨b286, o287 + 0 * 2, none⟩)) (fun w297 hCw297 => pureAt_of (ex_at (i := 0) (sz := 2) Try.underlying23 (sizeof_36 _) rfl ha288 rfl (hq0) rfl)) ?_
    simp only [pS, pN, pA, pC, pZ]
    refine gw_pure rfl rfl (.pointer (some ⟨b286, o287 + 0 * 2, none⟩)) (fun w297 hCw297 => pureAt_of (ex_field (q := ⟨b286, o287 + 0 * 2, none⟩) rfl (fa_36_0 _ _))) ?_
    simp only [pS, pN, pA, pC, pZ]
    refine gw_pure rfl rfl (.slice xa290 q.1.length xc291) (fun w297 hCw297 => pureAt_of (ex_load rfl (load1 (nagg_25 _) (St.fz (St.tells S270 hCw297) c289)))) ?_
    simp only [pS, pN, pA, pC, pZ]
    refine gw_pure rfl rfl (.pointer (some ⟨n132, 1, none⟩)) (fun w297 hCw297 => pureAt_of (ex_field (q := ⟨n132, 1, none⟩) rfl (fa_27_1 _ _))) ?_
    simp only [pS, pN, pA, pC, pZ]
    refine gw_pure rfl rfl (.slice xa125 (writeP p1).key.length xc126) (fun w297 hCw297 => pureAt_of (ex_load rfl (load1 (nagg_25 _) (St.cell (St.tells S270 hCw297) (i := 1) rfl rfl)))) ?_
    simp only [pS, pN, pA, pC, pZ]
    refine gw_nil ?_
    intro w298 hC300 hF301
    clear hF301
    have S299 := St.tells S270 hC300
    simp only [List.drop_succ_cons, List.drop_zero]
    refine stTells (v := (.bool true)) S299 rfl (ex_fn (vs := #[(.slice xa290 q.1.length xc291), (.slice xa125 (writeP p1).key.length xc126)]) (map2 rfl rfl) rfl (ent_31 _ _)) (tells_bool (tells_same (same_spec _ _ _ _ q.1 ((writeP p1).key) (S299).sat r292 (r130.mono ((((le141.trans le150).trans le167).trans le257).trans le272)))) (beq_iff_eq.2 (hq1))) (fun w302 S303 => ?_)
    simp only [pS, pN, pA, pC, pZ]
    refine do_ rfl (.bool true) (ex_pick (b := true) rfl) ?_
    simp only [pS, pN, pA, pC, pZ]
    refine do_ rfl (.bool true) (ex_pick (b := false) rfl) ?_
    simp only [pS, pN, pA, pC, pZ]
    refine do_ rfl (.bool true) (ex_pick (b := true) rfl) ?_
    simp only [pS, pN, pA, pC, pZ]
    refine do_ rfl (.bool true) (ex_assign _) ?_
    simp only [pS, pN, pA, pC, pZ]
    refine wl_nil (hK280 _ _ ?_)
    refine wp_ret ?_
    (try simp only [Exit.then, Exit.inBlock, ↓reduceIte, Nat.reduceEqDiff])
    refine bodyPost_ret (v := (.bool true)) ?_ rfl ?_
    ·exact res_t rfl rfl
    ·exact ⟨rfl, S303.gr.below⟩
end Go.Proofs.Ytcpngkkconalhaa
