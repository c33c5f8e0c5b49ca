/- Rules, plain laws and walks: F1 F2 -/
import Derived.Test.YtlimmmidfhpakaaGB4
import Derived.Test.YtlimmmidfhpakaaGB3
namespace Go.Proofs.Ytlimmmidfhpakaa
open Go.RowKit
set_option maxRecDepth 100000
set_option linter.unusedVariables false
set_option linter.unusedSimpArgs false
set_option maxHeartbeats 8000000 in
theorem findCmp_spec (F : Fz) (w : World) (v u : Value) (t : By × List Pr) (k : By) (hs : Sat w F) (hv : TnV F v t) (hu : Bs F u k) :
    Calls Try.prog 62 #[v, u] w (Tells w (.int .i64 (cmpL t.1 k))) := by
 obtain ⟨x0, y0, x1, y1, rfl, h0, h1⟩ := hv
 obtain ⟨a2, c2, rfl, _⟩ := hu.shape
 have S := St.start hs
 go_enter Try.func62, Try.ntmps62
 refine wp_seq_k (fun K1 hK1 => region_wl ?_)
 refine stNew S (v := fun n => .pointer (some ⟨n, 0, none⟩)) rfl (ex_box (v := (.agg #[(.slice x0 t.1.length y0), (.slice x1 t.2.length y1)])) rfl) (fun n2 w3 S4 => ?_)
 simp only [pS, pN, pA, pC, pZ]
 have S4 : St w F w3 F [⟨n2, [(.slice x0 t.1.length y0), (.slice x1 t.2.length y1)], 80⟩] [] := S4
 refine do_ rfl (.int .i64 0) (ex_assign _) ?_
 simp only [pS, pN, pA, pC, pZ]
 refine wl_nil (hK1 _ _ ?_)
 refine wp_seq_k (fun K5 hK5 => region_wl ?_)
 refine do_ rfl (.pointer (some ⟨n2, 0, none⟩)) (ex_field (q := ⟨n2, 0, none⟩) rfl (fa_80_0 _ _)) ?_
 simp only [pS, pN, pA, pC, pZ]
 refine do_ rfl (.slice x0 t.1.length y0) (ex_load rfl (load1 (nagg_25 _) (St.cell S4 (i := 0) rfl rfl))) ?_
 simp only [pS, pN, pA, pC, pZ]
 refine do_ rfl (.slice a2 k.length c2) (ex_move _) ?_
 simp only [pS, pN, pA, pC, pZ]
 refine stTells (v := (.int .i64 (cmpL t.1 k))) S4 rfl (ex_fn (vs := #[(.slice x0 t.1.length y0), (.slice a2 k.length c2)]) (map2 rfl rfl) rfl (ent_45 _ _)) (bytesCompare_spec _ _ _ _ t.1 k (S4).sat h0 hu) (fun w6 S7 => ?_)
 simp only [pS, pN, pA, pC, pZ]
 refine do_ rfl (.int .i64 (cmpL t.1 k)) (ex_assign _) ?_
 simp only [pS, pN, pA, pC, pZ]
 refine wl_nil (hK5 _ _ ?_)
 refine wp_ret ?_
 (try simp only [Exit.then, Exit.inBlock, ↓reduceIte, Nat.reduceEqDiff])
 refine bodyPost_ret (v := (.int .i64 (cmpL t.1 k))) ?_ rfl ?_
 ·exact res_t rfl rfl
 ·exact ⟨rfl, S7.gr.below⟩
set_option maxHeartbeats 8000000 in
theorem bsearchT_spec (F : Fz) (w : World) (v u : Value) (l : Forest) (k : By) (hs : Sat w F) (hv : Tns F v l) (hu : Bs F u k) (hr : Rise l) (hl : l.length ≤ 1000000) :
    Calls Try.prog 61 #[v, u, .func (.func 62) #[] #[]] w (Tells w (.tuple #[.int .i64 (posT l k : Nat), .bool (hasT l k)])) := by
 obtain ⟨a, c, rfl, hc1, hc2⟩ := Sl.shape hv
 obtain ⟨a2, c2, rfl, _⟩ := hu.shape
 unfold maxLen at hc2
 have S := St.start hs
 go_enter Try.func61, Try.ntmps61
 refine wp_seq_k (fun K1 hK1 => region_wl ?_)
 refine do_ rfl (.int .i64 0) (ex_assign _) ?_
 simp only [pS, pN, pA, pC, pZ]
 refine do_ rfl (.bool false) (ex_assign _) ?_
 simp only [pS, pN, pA, pC, pZ]
 refine wl_nil (hK1 _ _ ?_)
 refine wp_seq_k (fun K2 hK2 => region_wl ?_)
 refine do_ rfl (.slice a l.length c) (ex_move _) ?_
 simp only [pS, pN, pA, pC, pZ]
 refine do_ rfl (.int .i64 ((l.length : Nat) : Int)) (ex_len Try.underlying52 rfl) ?_
 simp only [pS, pN, pA, pC, pZ]
 refine do_ rfl (.int .i64 ((l.length : Nat) : Int)) (ex_assign _) ?_
 simp only [pS, pN, pA, pC, pZ]
 refine wl_nil (hK2 _ _ ?_)
 refine wp_seq_k (fun K3 hK3 => region_wl ?_)
 refine do_ rfl (.int .i64 ((l.length : Nat) : Int)) (ex_move _) ?_
 simp only [pS, pN, pA, pC, pZ]
 refine do_ rfl (.int .i64 0) (ex_assign _) ?_
 simp only [pS, pN, pA, pC, pZ]
 refine do_ rfl (.int .i64 ((l.length : Nat) : Int)) (ex_assign _) ?_
 simp only [pS, pN, pA, pC, pZ]
 refine wl_nil (hK3 _ _ ?_)
 refine wp_seq_k (fun K4 hK4 => ?_)
 refine wp_block ?_
 refine wp_loop_g (fun mm aa w6 => ∃ (i : Nat) (j : Nat) (u5 : Nat → Value), mm = j - i ∧ u5 = slots aa ∧ aa = ⟨#[(.slice a l.length c), (.slice a2 k.length c2), (.func (.func 62) #[] #[]), undef, undef, undef, (.int .i64 0), (.bool false), (.int .i64 ((l.length : Nat) : Int)), (.int .i64 ((i : Nat) : Int)), (.int .i64 ((j : Nat) : Int)), (u5 11), (.slice a l.length c), (.int .i64 ((l.length : Nat) : Int)), (.int .i64 ((l.length : Nat) : Int)), (u5 15), (u5 16), (u5 17), (u5 18), (u5 19), (u5 20), (u5 21), (u5 22), (u5 23), (u5 24), (u5 25), (u5 26), (u5 27), (u5 28), (u5 29), (u5 30), (u5 31), (u5 32), (u5 33), (u5 34), undef, undef, undef, undef, undef, undef, undef, undef, undef, undef, undef, undef, undef, undef], []⟩ ∧ St w F w6 F [] [] ∧ (i ≤ j) ∧ (j ≤ l.length) ∧ (i ≤ posT l k) ∧ (posT l k ≤ j)) _ ⟨0, l.length, _, rfl, rfl, rfl, S, (by omega), (by omega), (by omega), (posBy_le _ _ _)⟩ ?_
 rintro m7 a8 w9 ⟨i, j, u5, rfl, -, rfl, S10, hij, hj, hip, hjp⟩ K12 hK12
 refine wp_seq_k (fun K13 hK13 => ?_)
 refine wp_seq_k (fun K14 hK14 => region_wl ?_)
 refine do_ rfl (.int .i64 ((i : Nat) : Int)) (ex_move _) ?_
 simp only [pS, pN, pA, pC, pZ]
 refine do_ rfl (.int .i64 ((j : Nat) : Int)) (ex_move _) ?_
 simp only [pS, pN, pA, pC, pZ]
 by_cases hc17 : i < j
 ·refine do_ rfl (.bool true) (ex_lss (m := ((i : Nat) : Int)) (n := ((j : Nat) : Int)) (b := true) rfl rfl (decide_eq_true (by omega))) ?_
  simp only [pS, pN, pA, pC, pZ]
  refine wl_nil (hK14 _ _ ?_)
  refine wp_cond_true rfl ?_
  refine wp_skip ?_
  refine hK13 _ _ ?_
  refine wp_block ?_
  refine wp_seq_k (fun K15 hK15 => region_wl ?_)
  refine do_ rfl (.int .i64 ((i : Nat) : Int)) (ex_move _) ?_
  simp only [pS, pN, pA, pC, pZ]
  refine do_ rfl (.int .i64 ((j : Nat) : Int)) (ex_move _) ?_
  simp only [pS, pN, pA, pC, pZ]
  refine do_ rfl (.int .i64 (((i + j) : Nat) : Int)) (ex_add (m := ((i : Nat) : Int)) (n := ((j : Nat) : Int)) (r := (((i + j) : Nat) : Int)) rfl rfl (by omega) (by omega) (by omega)) ?_
  simp only [pS, pN, pA, pC, pZ]
  refine do_ rfl (.int .u64 (((i + j) : Nat) : Int)) (ex_convert (v := (.int .i64 (((i + j) : Nat) : Int))) rfl (conv_iu (i + j) (by omega) _)) ?_
  simp only [pS, pN, pA, pC, pZ]
  refine do_ rfl (.int .u64 (((i + j) / 2 : Nat) : Int)) (ex_shr (.inl rfl) rfl rfl (shr1_u (i + j) _ _)) ?_
  simp only [pS, pN, pA, pC, pZ]
  refine do_ rfl (.int .i64 (((i + j) / 2 : Nat) : Int)) (ex_convert (v := (.int .u64 (((i + j) / 2 : Nat) : Int))) rfl (conv_ui ((i + j) / 2) (by omega) _)) ?_
  simp only [pS, pN, pA, pC, pZ]
  refine do_ rfl (.int .i64 (((i + j) / 2 : Nat) : Int)) (ex_assign _) ?_
  simp only [pS, pN, pA, pC, pZ]
  refine wl_nil (hK15 _ _ ?_)
  refine wp_seq_k (fun K16 hK16 => ?_)
  obtain ⟨t, hp⟩ : ∃ t, l[(i + j) / 2]? = some t := ⟨l[(i + j) / 2], List.getElem?_eq_getElem (by omega)⟩
  obtain ⟨b17, o18, ha19, xa21, xc22, xa25, xc26, c20, c24, r23, r27⟩ := Tns.get hv hp
  refine region_wl ?_
  refine do_ rfl (.func (.func 62) #[] #[]) (ex_move _) ?_
  simp only [pS, pN, pA, pC, pZ]
  refine do_ rfl (.slice a l.length c) (ex_move _) ?_
  simp only [pS, pN, pA, pC, pZ]
  refine do_ rfl (.int .i64 (((i + j) / 2 : Nat) : Int)) (ex_move _) ?_
  simp only [pS, pN, pA, pC, pZ]
  refine do_ rfl (.pointer (some ⟨b17, o18 + ((i + j) / 2) * 2, none⟩)) (ex_at (i := (i + j) / 2) (sz := 2) Try.underlying52 (sizeof_80 _) rfl ha19 rfl (by omega) rfl) ?_
  simp only [pS, pN, pA, pC, pZ]
  refine do_ rfl (.agg #[(.slice xa21 t.1.length xc22), (.slice xa25 t.2.length xc26)]) (ex_load rfl (loadN (cs := [(.slice xa21 t.1.length xc22), (.slice xa25 t.2.length xc26)]) Try.underlying80 rfl (size_80) (range2 (St.fz S10 c20) (St.fz S10 c24)))) ?_
  simp only [pS, pN, pA, pC, pZ]
  refine do_ rfl (.slice a2 k.length c2) (ex_move _) ?_
  simp only [pS, pN, pA, pC, pZ]
  refine stTells (v := (.int .i64 (cmpL t.1 k))) S10 rfl (ex_fv (fs := #[]) (cs := #[]) (vs := #[(.agg #[(.slice xa21 t.1.length xc22), (.slice xa25 t.2.length xc26)]), (.slice a2 k.length c2)]) rfl (vmap (fs := #[]) (cs := #[]) (xs := #[(.agg #[(.slice xa21 t.1.length xc22), (.slice xa25 t.2.length xc26)]), (.slice a2 k.length c2)]) (map2 rfl rfl) (by simp)) (ent_62 _ _)) (findCmp_spec _ _ _ _ t k (S10).sat ⟨_, _, _, _, rfl, r23, r27⟩ hu) (fun w28 S29 => ?_)
  simp only [pS, pN, pA, pC, pZ]
  by_cases hc31 : (cmpL t.1 k) < (0 : Int)
  ·refine do_ rfl (.bool true) (ex_lss (m := (cmpL t.1 k)) (n := (0 : Int)) (b := true) rfl rfl (decide_eq_true (by omega))) ?_
   simp only [pS, pN, pA, pC, pZ]
   refine wl_nil (hK16 _ _ ?_)
   refine wp_cond_true rfl ?_
   refine region_wl ?_
   refine do_ rfl (.int .i64 (((i + j) / 2 : Nat) : Int)) (ex_move _) ?_
   simp only [pS, pN, pA, pC, pZ]
   refine do_ rfl (.int .i64 ((((i + j) / 2 + 1) : Nat) : Int)) (ex_add (m := (((i + j) / 2 : Nat) : Int)) (n := (1 : Int)) (r := ((((i + j) / 2 + 1) : Nat) : Int)) rfl rfl (by omega) (by omega) (by omega)) ?_
   simp only [pS, pN, pA, pC, pZ]
   refine do_ rfl (.int .i64 ((((i + j) / 2 + 1) : Nat) : Int)) (ex_assign _) ?_
   simp only [pS, pN, pA, pC, pZ]
   refine wl_nil ?_
   exact hK12 _ _ _ (by omega) ⟨((i + j) / 2 + 1), j, _, rfl, rfl, rfl, S29, (by have := pos_gt hr hp hc31; omega), (by omega), (pos_gt hr hp hc31), (by omega)⟩
  ·refine do_ rfl (.bool false) (ex_lss (m := (cmpL t.1 k)) (n := (0 : Int)) (b := false) rfl rfl (decide_eq_false (by omega))) ?_
   simp only [pS, pN, pA, pC, pZ]
   refine wl_nil (hK16 _ _ ?_)
   refine wp_cond_false rfl ?_
   refine region_wl ?_
   refine do_ rfl (.int .i64 (((i + j) / 2 : Nat) : Int)) (ex_move _) ?_
   simp only [pS, pN, pA, pC, pZ]
   refine do_ rfl (.int .i64 (((i + j) / 2 : Nat) : Int)) (ex_assign _) ?_
   simp only [pS, pN, pA, pC, pZ]
   refine wl_nil ?_
   exact hK12 _ _ _ (by omega) ⟨i, (i + j) / 2, _, rfl, rfl, rfl, S29, (by omega), (by omega), (by omega), (pos_le hp hc31)⟩
 ·refine do_ rfl (.bool false) (ex_lss (m := ((i : Nat) : Int)) (n := ((j : Nat) : Int)) (b := false) rfl rfl (decide_eq_false (by omega))) ?_
  simp only [pS, pN, pA, pC, pZ]
  refine wl_nil (hK14 _ _ ?_)
  refine wp_cond_false rfl ?_
  refine wp_exit ?_
  refine hK4 _ _ ?_
  refine wp_seq_k (fun K30 hK30 => ?_)
  have hip2 : posT l k = i := by omega
  by_cases h0 : i < l.length
  ·obtain ⟨t, hp⟩ : ∃ t, l[i]? = some t := ⟨l[i], List.getElem?_eq_getElem h0⟩
   obtain ⟨b31, o32, ha33, xa35, xc36, xa39, xc40, c34, c38, r37, r41⟩ := Tns.get hv hp
   refine region_wl ?_
   refine do_ rfl (.int .i64 ((i : Nat) : Int)) (ex_move _) ?_
   simp only [pS, pN, pA, pC, pZ]
   refine do_ rfl (.int .i64 ((i : Nat) : Int)) (ex_move _) ?_
   simp only [pS, pN, pA, pC, pZ]
   refine do_ rfl (.int .i64 ((l.length : Nat) : Int)) (ex_move _) ?_
   simp only [pS, pN, pA, pC, pZ]
   refine do_ rfl (.bool true) (ex_lss (m := ((i : Nat) : Int)) (n := ((l.length : Nat) : Int)) (b := true) rfl rfl (decide_eq_true (by omega))) ?_
   simp only [pS, pN, pA, pC, pZ]
   refine do_ rfl (.bool true) (ex_move _) ?_
   simp only [pS, pN, pA, pC, pZ]
   refine do_ rfl (.func (.func 62) #[] #[]) (ex_move _) ?_
   simp only [pS, pN, pA, pC, pZ]
   refine do_ rfl (.slice a l.length c) (ex_move _) ?_
   simp only [pS, pN, pA, pC, pZ]
   refine do_ rfl (.int .i64 ((i : Nat) : Int)) (ex_move _) ?_
   simp only [pS, pN, pA, pC, pZ]
   refine do_ rfl (.pointer (some ⟨b31, o32 + i * 2, none⟩)) (ex_at (i := i) (sz := 2) Try.underlying52 (sizeof_80 _) rfl ha33 rfl (by omega) rfl) ?_
   simp only [pS, pN, pA, pC, pZ]
   refine do_ rfl (.agg #[(.slice xa35 t.1.length xc36), (.slice xa39 t.2.length xc40)]) (ex_load rfl (loadN (cs := [(.slice xa35 t.1.length xc36), (.slice xa39 t.2.length xc40)]) Try.underlying80 rfl (size_80) (range2 (St.fz S10 c34) (St.fz S10 c38)))) ?_
   simp only [pS, pN, pA, pC, pZ]
   refine do_ rfl (.slice a2 k.length c2) (ex_move _) ?_
   simp only [pS, pN, pA, pC, pZ]
   refine stTells (v := (.int .i64 (cmpL t.1 k))) S10 rfl (ex_fv (fs := #[]) (cs := #[]) (vs := #[(.agg #[(.slice xa35 t.1.length xc36), (.slice xa39 t.2.length xc40)]), (.slice a2 k.length c2)]) rfl (vmap (fs := #[]) (cs := #[]) (xs := #[(.agg #[(.slice xa35 t.1.length xc36), (.slice xa39 t.2.length xc40)]), (.slice a2 k.length c2)]) (map2 rfl rfl) (by simp)) (ent_62 _ _)) (findCmp_spec _ _ _ _ t k (S10).sat ⟨_, _, _, _, rfl, r37, r41⟩ hu) (fun w42 S43 => ?_)
   simp only [pS, pN, pA, pC, pZ]
   by_cases hc47 : (cmpL t.1 k) = (0 : Int)
   ·refine do_ rfl (.bool true) (ex_eql (m := (cmpL t.1 k)) (n := (0 : Int)) (b := true) rfl rfl (beq_iff_eq.2 (by omega))) ?_
    simp only [pS, pN, pA, pC, pZ]
    refine do_ rfl (.bool true) (ex_pick (b := true) rfl) ?_
    simp only [pS, pN, pA, pC, pZ]
    refine do_ rfl (.int .i64 ((i : Nat) : Int)) (ex_assign _) ?_
    simp only [pS, pN, pA, pC, pZ]
    refine do_ rfl (.bool true) (ex_assign _) ?_
    simp only [pS, pN, pA, pC, pZ]
    refine wl_nil (hK30 _ _ ?_)
    refine wp_ret ?_
    (try simp only [Exit.then, Exit.inBlock, ↓reduceIte, Nat.reduceEqDiff])
    refine bodyPost_ret (v := (.tuple #[(.int .i64 ((i : Nat) : Int)), (.bool true)])) ?_ rfl ?_
    ·exact res_tt rfl rfl rfl
    ·have e2 := has_yes hr (by rw [hip2]; exact hp) hc47
     exact ⟨by rw [e2, hip2], S43.gr.below⟩
   ·refine do_ rfl (.bool false) (ex_eql (m := (cmpL t.1 k)) (n := (0 : Int)) (b := false) rfl rfl (beq_eq_false_iff_ne.2 (by omega))) ?_
    simp only [pS, pN, pA, pC, pZ]
    refine do_ rfl (.bool false) (ex_pick (b := true) rfl) ?_
    simp only [pS, pN, pA, pC, pZ]
    refine do_ rfl (.int .i64 ((i : Nat) : Int)) (ex_assign _) ?_
    simp only [pS, pN, pA, pC, pZ]
    refine do_ rfl (.bool false) (ex_assign _) ?_
    simp only [pS, pN, pA, pC, pZ]
    refine wl_nil (hK30 _ _ ?_)
    refine wp_ret ?_
    (try simp only [Exit.then, Exit.inBlock, ↓reduceIte, Nat.reduceEqDiff])
    refine bodyPost_ret (v := (.tuple #[(.int .i64 ((i : Nat) : Int)), (.bool false)])) ?_ rfl ?_
    ·exact res_tt rfl rfl rfl
    ·have e2 := has_no hr (by rw [hip2]; exact hp) hc47
     exact ⟨by rw [e2, hip2], S43.gr.below⟩
  ·refine region_wl ?_
   refine do_ rfl (.int .i64 ((i : Nat) : Int)) (ex_move _) ?_
   simp only [pS, pN, pA, pC, pZ]
   refine do_ rfl (.int .i64 ((i : Nat) : Int)) (ex_move _) ?_
   simp only [pS, pN, pA, pC, pZ]
   refine do_ rfl (.int .i64 ((l.length : Nat) : Int)) (ex_move _) ?_
   simp only [pS, pN, pA, pC, pZ]
   refine do_ rfl (.bool false) (ex_lss (m := ((i : Nat) : Int)) (n := ((l.length : Nat) : Int)) (b := false) rfl rfl (decide_eq_false (by omega))) ?_
   simp only [pS, pN, pA, pC, pZ]
   refine do_ rfl (.bool false) (ex_move _) ?_
   simp only [pS, pN, pA, pC, pZ]
   refine doN (wanted_no rfl rfl rfl (c := false) rfl (by decide)) ?_
   simp only [pS, pN, pA, pC, pZ]
   refine doN (wanted_no rfl rfl rfl (c := false) rfl (by decide)) ?_
   simp only [pS, pN, pA, pC, pZ]
   refine doN (wanted_no rfl rfl rfl (c := false) rfl (by decide)) ?_
   simp only [pS, pN, pA, pC, pZ]
   refine doN (wanted_no rfl rfl rfl (c := false) rfl (by decide)) ?_
   simp only [pS, pN, pA, pC, pZ]
   refine doN (wanted_no rfl rfl rfl (c := false) rfl (by decide)) ?_
   simp only [pS, pN, pA, pC, pZ]
   refine doN (wanted_no rfl rfl rfl (c := false) rfl (by decide)) ?_
   simp only [pS, pN, pA, pC, pZ]
   refine doN (wanted_no rfl rfl rfl (c := false) rfl (by decide)) ?_
   simp only [pS, pN, pA, pC, pZ]
   refine doN (wanted_no rfl rfl rfl (c := false) rfl (by decide)) ?_
   simp only [pS, pN, pA, pC, pZ]
   refine do_ rfl (.bool false) (ex_pick (b := false) rfl) ?_
   simp only [pS, pN, pA, pC, pZ]
   refine do_ rfl (.int .i64 ((i : Nat) : Int)) (ex_assign _) ?_
   simp only [pS, pN, pA, pC, pZ]
   refine do_ rfl (.bool false) (ex_assign _) ?_
   simp only [pS, pN, pA, pC, pZ]
   refine wl_nil (hK30 _ _ ?_)
   refine wp_ret ?_
   (try simp only [Exit.then, Exit.inBlock, ↓reduceIte, Nat.reduceEqDiff])
   refine bodyPost_ret (v := (.tuple #[(.int .i64 ((i : Nat) : Int)), (.bool false)])) ?_ rfl ?_
   ·exact res_tt rfl rfl rfl
   ·have e2 : hasT l k = false := has_end hr (by omega)
    exact ⟨by rw [e2, hip2], S10.gr.below⟩
set_option maxHeartbeats 8000000 in
theorem findT_spec (F : Fz) (w : World) (v u : Value) (l : Forest) (k : By) (hs : Sat w F) (hv : Tns F v l) (hu : Bs F u k) (hr : Rise l) (hl : l.length ≤ 1000000) :
    Calls Try.prog 52 #[v, u] w (Tells w (.tuple #[.int .i64 (posT l k : Nat), .bool (hasT l k)])) := by
 obtain ⟨a, c, rfl, hc1, hc2⟩ := Sl.shape hv
 obtain ⟨a2, c2, rfl, _⟩ := hu.shape
 have S := St.start hs
 go_enter Try.func52, Try.ntmps52
 refine wp_seq_k (fun K1 hK1 => region_wl ?_)
 refine do_ rfl (.int .i64 0) (ex_assign _) ?_
 simp only [pS, pN, pA, pC, pZ]
 refine do_ rfl (.bool false) (ex_assign _) ?_
 simp only [pS, pN, pA, pC, pZ]
 refine wl_nil (hK1 _ _ ?_)
 refine wp_seq_k (fun K2 hK2 => region_wl ?_)
 refine do_ rfl (.slice a l.length c) (ex_move _) ?_
 simp only [pS, pN, pA, pC, pZ]
 refine do_ rfl (.slice a2 k.length c2) (ex_move _) ?_
 simp only [pS, pN, pA, pC, pZ]
 refine stTells (v := (.tuple #[(.int .i64 (((posT l k) : Nat) : Int)), (.bool (hasT l k))])) S rfl (ex_fn (vs := #[(.slice a l.length c), (.slice a2 k.length c2), (.func (.func 62) #[] #[])]) (map3 rfl rfl rfl) rfl (ent_61 _ _)) (bsearchT_spec _ _ _ _ l k (S).sat hv hu hr hl) (fun w3 S4 => ?_)
 simp only [pS, pN, pA, pC, pZ]
 refine do_ rfl (.int .i64 (((posT l k) : Nat) : Int)) (ex_extract rfl rfl) ?_
 simp only [pS, pN, pA, pC, pZ]
 refine do_ rfl (.bool (hasT l k)) (ex_extract rfl rfl) ?_
 simp only [pS, pN, pA, pC, pZ]
 refine do_ rfl (.int .i64 (((posT l k) : Nat) : Int)) (ex_assign _) ?_
 simp only [pS, pN, pA, pC, pZ]
 refine do_ rfl (.bool (hasT l k)) (ex_assign _) ?_
 simp only [pS, pN, pA, pC, pZ]
 refine wl_nil (hK2 _ _ ?_)
 refine wp_ret ?_
 (try simp only [Exit.then, Exit.inBlock, ↓reduceIte, Nat.reduceEqDiff])
 refine bodyPost_ret (v := (.tuple #[(.int .i64 (((posT l k) : Nat) : Int)), (.bool (hasT l k))])) ?_ rfl ?_
 ·exact res_tt rfl rfl rfl
 ·exact ⟨rfl, S4.gr.below⟩
/-- The tree of a name, where it is found. -/
theorem treeF_has {l : Forest} (hr : Rise l) {k : By} {t : By × List Pr} (h : hasT l k = true) (hp : l[posT l k]? = some t) : treeF l k = t.2 := by
  obtain ⟨hh, rfl⟩ := List.getElem?_eq_some_iff.1 hp
  obtain ⟨_, h2⟩ := (hasBy_at hr).1 h
  have := mem_getT hr (List.getElem_mem hh)
  rw [show l[posT l k].1 = k from h2] at this
  unfold treeF
  rw [this]
  rfl
theorem treeF_not {l : Forest} {k : By} (h : hasT l k = false) : treeF l k = [] := by
  unfold treeF
  rw [get_not (by rw [h]; simp)]
  rfl
theorem hasF_pos {l : Forest} (hr : Rise l) {k : By} (h : hasT l k = true) : posT l k < l.length := ((hasBy_at hr).1 h).1
set_option maxHeartbeats 8000000 in
theorem pairsT_spec (F : Fz) (w : World) (v u : Value) (l : Forest) (k : By) (hs : Sat w F) (hv : Tns F v l) (hu : Bs F u k) (hr : Rise l) (hl : l.length ≤ 1000000) :
    Calls Try.prog 37 #[v, u] w fun e w' => ∃ x, e = .returned x ∧ Below w.heap.size w w' ∧ Prs F x (treeF l k) := by
 obtain ⟨a, c, rfl, hc1, hc2⟩ := Sl.shape hv
 obtain ⟨a2, c2, rfl, _⟩ := hu.shape
 unfold maxLen at hc2
 have S := St.start hs
 go_enter Try.func37, Try.ntmps37
 refine wp_seq_k (fun K1 hK1 => region_wl ?_)
 refine do_ rfl (.slice none 0 0) (ex_assign _) ?_
 simp only [pS, pN, pA, pC, pZ]
 refine wl_nil (hK1 _ _ ?_)
 refine wp_seq_k (fun K2 hK2 => ?_)
 refine wp_seq_k (fun K3 hK3 => region_wl ?_)
 refine do_ rfl (.slice a l.length c) (ex_move _) ?_
 simp only [pS, pN, pA, pC, pZ]
 refine do_ rfl (.slice a2 k.length c2) (ex_move _) ?_
 simp only [pS, pN, pA, pC, pZ]
 refine stTells (v := (.tuple #[(.int .i64 (((posT l k) : Nat) : Int)), (.bool (hasT l k))])) S rfl (ex_fn (vs := #[(.slice a l.length c), (.slice a2 k.length c2)]) (map2 rfl rfl) rfl (ent_52 _ _)) (findT_spec _ _ _ _ l k (S).sat hv hu hr hl) (fun w4 S5 => ?_)
 simp only [pS, pN, pA, pC, pZ]
 refine do_ rfl (.tuple #[(.int .i64 (((posT l k) : Nat) : Int)), (.bool (hasT l k))]) (ex_move _) ?_
 simp only [pS, pN, pA, pC, pZ]
 refine do_ rfl (.int .i64 (((posT l k) : Nat) : Int)) (ex_extract rfl rfl) ?_
 simp only [pS, pN, pA, pC, pZ]
 refine do_ rfl (.bool (hasT l k)) (ex_extract rfl rfl) ?_
 simp only [pS, pN, pA, pC, pZ]
 refine do_ rfl (.int .i64 (((posT l k) : Nat) : Int)) (ex_assign _) ?_
 simp only [pS, pN, pA, pC, pZ]
 refine do_ rfl (.bool (hasT l k)) (ex_assign _) ?_
 simp only [pS, pN, pA, pC, pZ]
 refine wl_nil (hK3 _ _ ?_)
 refine wp_seq_k (fun K6 hK6 => region_wl ?_)
 refine do_ rfl (.bool (hasT l k)) (ex_move _) ?_
 simp only [pS, pN, pA, pC, pZ]
 refine wl_nil (hK6 _ _ ?_)
 refine wp_cond_split rfl (fun hc7 => ?_) (fun hc7 => ?_)
 ·refine wp_seq_k (fun K8 hK8 => ?_)
  have hpos := hasF_pos hr hc7
  obtain ⟨t, hp⟩ : ∃ t, l[posT l k]? = some t := ⟨l[posT l k], List.getElem?_eq_getElem hpos⟩
  obtain ⟨b9, o10, ha11, xa13, xc14, xa17, xc18, c12, c16, r15, r19⟩ := Tns.get hv hp
  refine region_wl ?_
  refine do_ rfl (.slice a l.length c) (ex_move _) ?_
  simp only [pS, pN, pA, pC, pZ]
  refine do_ rfl (.int .i64 (((posT l k) : Nat) : Int)) (ex_move _) ?_
  simp only [pS, pN, pA, pC, pZ]
  refine do_ rfl (.pointer (some ⟨b9, o10 + (posT l k) * 2, none⟩)) (ex_at (i := (posT l k)) (sz := 2) Try.underlying52 (sizeof_80 _) rfl ha11 rfl (hpos) rfl) ?_
  simp only [pS, pN, pA, pC, pZ]
  refine do_ rfl (.pointer (some ⟨b9, o10 + (posT l k) * 2 + 1, none⟩)) (ex_field (q := ⟨b9, o10 + (posT l k) * 2 + 1, none⟩) rfl (fa_80_1 _ _)) ?_
  simp only [pS, pN, pA, pC, pZ]
  refine do_ rfl (.slice xa17 t.2.length xc18) (ex_load rfl (load1 (nagg_23 _) (St.fz S5 c16))) ?_
  simp only [pS, pN, pA, pC, pZ]
  refine do_ rfl (.slice xa17 t.2.length xc18) (ex_assign _) ?_
  simp only [pS, pN, pA, pC, pZ]
  refine wl_nil (hK8 _ _ ?_)
  refine wp_ret ?_
  (try simp only [Exit.then, Exit.inBlock, ↓reduceIte, Nat.reduceEqDiff])
  refine bodyPost_ret (v := (.slice xa17 t.2.length xc18)) ?_ rfl ?_
  ·exact res_t rfl rfl
  ·exact ⟨_, rfl, S5.gr.below, by rw [treeF_has hr hc7 hp]; exact r19⟩
 ·refine wp_skip ?_
  refine hK2 _ _ ?_
  refine wp_seq_k (fun K20 hK20 => region_wl ?_)
  refine do_ rfl (.slice none 0 0) (ex_assign _) ?_
  simp only [pS, pN, pA, pC, pZ]
  refine wl_nil (hK20 _ _ ?_)
  refine wp_ret ?_
  (try simp only [Exit.then, Exit.inBlock, ↓reduceIte, Nat.reduceEqDiff])
  refine bodyPost_ret (v := (.slice none 0 0)) ?_ rfl ?_
  ·exact res_t rfl rfl
  ·exact ⟨_, rfl, S5.gr.below, by rw [treeF_not hc7]; exact Sl.nil _ _ _⟩
set_option maxHeartbeats 8000000 in
theorem forestCheck_spec (F : Fz) (w : World) (v : Value) (l : Forest) (hs : Sat w F) (hv : Tns F v l) :
    Calls Try.prog 38 #[v] w (Tells w (.int .i64 (forestE l))) := by
 obtain ⟨a, c, rfl, hc1, hc2⟩ := Sl.shape hv
 unfold maxLen at hc2
 have S := St.start hs
 go_enter Try.func38, Try.ntmps38
 refine wp_seq_k (fun K1 hK1 => region_wl ?_)
 refine do_ rfl (.int .i64 0) (ex_assign _) ?_
 simp only [pS, pN, pA, pC, pZ]
 refine wl_nil (hK1 _ _ ?_)
 refine wp_seq_k (fun K2 hK2 => ?_)
 refine wp_seq_k (fun K3 hK3 => region_wl ?_)
 refine do_ rfl (.slice a l.length c) (ex_move _) ?_
 simp only [pS, pN, pA, pC, pZ]
 refine do_ rfl (.int .i64 ((l.length : Nat) : Int)) (ex_len Try.underlying52 rfl) ?_
 simp only [pS, pN, pA, pC, pZ]
 by_cases hc9 : 8 < l.length
 ·refine do_ rfl (.bool true) (ex_gtr (m := ((l.length : Nat) : Int)) (n := (8 : Int)) (b := true) rfl rfl (decide_eq_true (by omega))) ?_
  simp only [pS, pN, pA, pC, pZ]
  refine wl_nil (hK3 _ _ ?_)
  refine wp_cond_true rfl ?_
  refine wp_seq_k (fun K4 hK4 => region_wl ?_)
  refine do_ rfl (.int .i64 1) (ex_assign _) ?_
  simp only [pS, pN, pA, pC, pZ]
  refine wl_nil (hK4 _ _ ?_)
  refine wp_ret ?_
  (try simp only [Exit.then, Exit.inBlock, ↓reduceIte, Nat.reduceEqDiff])
  refine bodyPost_ret (v := (.int .i64 1)) ?_ rfl ?_
  ·exact res_t rfl rfl
  ·exact ⟨by unfold forestE; rw [if_pos (by omega)], S.gr.below⟩
 ·refine do_ rfl (.bool false) (ex_gtr (m := ((l.length : Nat) : Int)) (n := (8 : Int)) (b := false) rfl rfl (decide_eq_false (by omega))) ?_
  simp only [pS, pN, pA, pC, pZ]
  refine wl_nil (hK3 _ _ ?_)
  refine wp_cond_false rfl ?_
  refine wp_skip ?_
  refine hK2 _ _ ?_
  refine wp_seq_k (fun K5 hK5 => ?_)
  refine wp_seq_k (fun K6 hK6 => region_wl ?_)
  refine do_ rfl (.slice a l.length c) (ex_move _) ?_
  simp only [pS, pN, pA, pC, pZ]
  refine do_ rfl (.int .i64 ((l.length : Nat) : Int)) (ex_len Try.underlying52 rfl) ?_
  simp only [pS, pN, pA, pC, pZ]
  refine do_ rfl (.int .i64 0) (ex_move _) ?_
  simp only [pS, pN, pA, pC, pZ]
  refine wl_nil (hK6 _ _ ?_)
  refine wp_block ?_
  refine wp_loop_g (fun mm aa w8 => ∃ (k : Nat) (u7 : Nat → Value), mm = l.length - k ∧ u7 = slots aa ∧ aa = ⟨#[(.slice a l.length c), undef, (u7 2), (u7 3), (u7 4), (u7 5), (u7 6), (.slice a l.length c), (.int .i64 ((l.length : Nat) : Int)), (.bool false), (.slice a l.length c), (.int .i64 ((l.length : Nat) : Int)), (.int .i64 ((k : Nat) : Int)), (u7 13), (u7 14), (u7 15), (u7 16), (u7 17), (u7 18), (u7 19), (u7 20), (u7 21), (u7 22), (u7 23), (u7 24), (u7 25), (u7 26), (u7 27), (u7 28), (u7 29), (u7 30), (u7 31), (u7 32), (u7 33), (u7 34), (u7 35), (u7 36), (u7 37), (u7 38), (u7 39), (u7 40), (u7 41), (u7 42), (u7 43), (u7 44), (u7 45), (u7 46), (u7 47)], []⟩ ∧ St w F w8 F [] [] ∧ (k ≤ l.length) ∧ (forestAt l l.length 0 = forestAt l (l.length - k) k)) _ ⟨0, _, rfl, rfl, rfl, S, (by omega), rfl⟩ ?_
  rintro m9 a10 w11 ⟨k, u7, rfl, -, rfl, S12, hk, hT⟩ K14 hK14
  refine wp_seq_k (fun K15 hK15 => region_wl ?_)
  by_cases hc13 : k < l.length
  ·refine do_ rfl (.bool true) (ex_lss (m := ((k : Nat) : Int)) (n := ((l.length : Nat) : Int)) (b := true) rfl rfl (decide_eq_true (by omega))) ?_
   simp only [pS, pN, pA, pC, pZ]
   refine wl_nil (hK15 _ _ ?_)
   refine wp_seq_k (fun K16 hK16 => ?_)
   refine wp_cond_true rfl ?_
   refine wp_skip ?_
   refine hK16 _ _ ?_
   refine wp_seq_k (fun K17 hK17 => ?_)
   refine wp_block ?_
   refine wp_seq_k (fun K18 hK18 => ?_)
   obtain ⟨t, hp⟩ : ∃ t, l[k]? = some t := ⟨l[k], List.getElem?_eq_getElem hc13⟩
   obtain ⟨b19, o20, ha21, xa23, xc24, xa27, xc28, c22, c26, r25, r29⟩ := Tns.get hv hp
   refine region_wl ?_
   refine do_ rfl (.int .i64 ((k : Nat) : Int)) (ex_move _) ?_
   simp only [pS, pN, pA, pC, pZ]
   refine do_ rfl (.pointer (some ⟨b19, o20 + k * 2, none⟩)) (ex_at (i := k) (sz := 2) Try.underlying52 (sizeof_80 _) rfl ha21 rfl (by omega) rfl) ?_
   simp only [pS, pN, pA, pC, pZ]
   refine do_ rfl (.agg #[(.slice xa23 t.1.length xc24), (.slice xa27 t.2.length xc28)]) (ex_load rfl (loadN (cs := [(.slice xa23 t.1.length xc24), (.slice xa27 t.2.length xc28)]) Try.underlying80 rfl (size_80) (range2 (St.fz S12 c22) (St.fz S12 c26)))) ?_
   simp only [pS, pN, pA, pC, pZ]
   refine stNew S12 (v := fun n => .pointer (some ⟨n, 0, none⟩)) rfl (ex_alloc (zero_80 _)) (fun n30 w31 S32 => ?_)
   simp only [pS, pN, pA, pC, pZ]
   have S32 : St w F w31 F [⟨n30, [(.slice none 0 0), (.slice none 0 0)], 80⟩] [] := S32
   refine do_ rfl (.int .i64 ((k : Nat) : Int)) (ex_assign _) ?_
   simp only [pS, pN, pA, pC, pZ]
   refine stStore (i := 0) (v := (.agg #[(.slice xa23 t.1.length xc24), (.slice xa27 t.2.length xc28)])) S32 rfl rfl rfl rfl (size_80) (allc2 rfl rfl) (Nat.le_of_ble_eq_true rfl) (fun w33 S34 => ?_)
   simp only [pS, pN, pA, pC, pZ]
   have S34 : St w F w33 F [⟨n30, [(.slice xa23 t.1.length xc24), (.slice xa27 t.2.length xc28)], 80⟩] [] := S34
   refine wl_nil (hK18 _ _ ?_)
   refine wp_seq_k (fun K35 hK35 => ?_)
   refine wp_seq_k (fun K36 hK36 => region_wl ?_)
   refine do_ rfl (.pointer (some ⟨n30, 0, none⟩)) (ex_field (q := ⟨n30, 0, none⟩) rfl (fa_80_0 _ _)) ?_
   simp only [pS, pN, pA, pC, pZ]
   refine do_ rfl (.slice xa23 t.1.length xc24) (ex_load rfl (load1 (nagg_25 _) (St.cell S34 (i := 0) rfl rfl))) ?_
   simp only [pS, pN, pA, pC, pZ]
   refine stTells (v := (.int .i64 (nameN t.1.length))) S34 rfl (ex_fn (vs := #[(.slice xa23 t.1.length xc24)]) (map1 rfl) rfl (ent_51 _ _)) (tells_same (name_len _ _ _ _)) (fun w37 S38 => ?_)
   simp only [pS, pN, pA, pC, pZ]
   refine do_ rfl (.int .i64 (nameN t.1.length)) (ex_assign _) ?_
   simp only [pS, pN, pA, pC, pZ]
   refine wl_nil (hK36 _ _ ?_)
   refine wp_seq_k (fun K39 hK39 => region_wl ?_)
   refine do_ rfl (.int .i64 (nameN t.1.length)) (ex_move _) ?_
   simp only [pS, pN, pA, pC, pZ]
   by_cases hc21 : (nameN t.1.length) = (0 : Int)
   ·refine do_ rfl (.bool false) (ex_neq (m := (nameN t.1.length)) (n := (0 : Int)) (b := false) rfl rfl (bne_eq_false_iff_eq.2 (by omega))) ?_
    simp only [pS, pN, pA, pC, pZ]
    refine wl_nil (hK39 _ _ ?_)
    refine wp_cond_false rfl ?_
    refine wp_skip ?_
    refine hK35 _ _ ?_
    refine wp_seq_k (fun K40 hK40 => ?_)
    refine wp_seq_k (fun K41 hK41 => region_wl ?_)
    refine do_ rfl (.pointer (some ⟨n30, 1, none⟩)) (ex_field (q := ⟨n30, 1, none⟩) rfl (fa_80_1 _ _)) ?_
    simp only [pS, pN, pA, pC, pZ]
    refine do_ rfl (.slice xa27 t.2.length xc28) (ex_load rfl (load1 (nagg_23 _) (St.cell S38 (i := 0) rfl rfl))) ?_
    simp only [pS, pN, pA, pC, pZ]
    refine do_ rfl (.int .i64 ((t.2.length : Nat) : Int)) (ex_len Try.underlying23 rfl) ?_
    simp only [pS, pN, pA, pC, pZ]
    by_cases hc26 : t.2.length = 0
    ·refine do_ rfl (.bool true) (ex_eql (m := ((t.2.length : Nat) : Int)) (n := (0 : Int)) (b := true) rfl rfl (beq_iff_eq.2 (by omega))) ?_
     simp only [pS, pN, pA, pC, pZ]
     refine wl_nil (hK41 _ _ ?_)
     refine wp_cond_true rfl ?_
     refine wp_seq_k (fun K42 hK42 => region_wl ?_)
     refine do_ rfl (.int .i64 4) (ex_assign _) ?_
     simp only [pS, pN, pA, pC, pZ]
     refine wl_nil (hK42 _ _ ?_)
     refine wp_ret ?_
     (try simp only [Exit.then, Exit.inBlock, ↓reduceIte, Nat.reduceEqDiff])
     refine bodyPost_ret (v := (.int .i64 4)) ?_ rfl ?_
     ·exact res_t rfl rfl
     ·exact ⟨by unfold forestE; rw [if_neg (by omega), hT, forestAt_at hp, if_neg (by omega), if_pos (by omega)], S38.gr.below⟩
    ·refine do_ rfl (.bool false) (ex_eql (m := ((t.2.length : Nat) : Int)) (n := (0 : Int)) (b := false) rfl rfl (beq_eq_false_iff_ne.2 (by omega))) ?_
     simp only [pS, pN, pA, pC, pZ]
     refine wl_nil (hK41 _ _ ?_)
     refine wp_cond_false rfl ?_
     refine wp_skip ?_
     refine hK40 _ _ ?_
     refine wp_seq_k (fun K43 hK43 => ?_)
     refine wp_seq_k (fun K44 hK44 => region_wl ?_)
     refine do_ rfl (.pointer (some ⟨n30, 1, none⟩)) (ex_field (q := ⟨n30, 1, none⟩) rfl (fa_80_1 _ _)) ?_
     simp only [pS, pN, pA, pC, pZ]
     refine do_ rfl (.slice xa27 t.2.length xc28) (ex_load rfl (load1 (nagg_23 _) (St.cell S38 (i := 0) rfl rfl))) ?_
     simp only [pS, pN, pA, pC, pZ]
     refine stTells (v := (.int .i64 (treeE t.2))) S38 rfl (ex_fn (vs := #[(.slice xa27 t.2.length xc28)]) (map1 rfl) rfl (ent_10 _ _)) (treeCheck_spec _ _ _ t.2 (S38).sat r29) (fun w45 S46 => ?_)
     simp only [pS, pN, pA, pC, pZ]
     refine do_ rfl (.int .i64 (treeE t.2)) (ex_assign _) ?_
     simp only [pS, pN, pA, pC, pZ]
     refine wl_nil (hK44 _ _ ?_)
     refine wp_seq_k (fun K47 hK47 => region_wl ?_)
     refine do_ rfl (.int .i64 (treeE t.2)) (ex_move _) ?_
     simp only [pS, pN, pA, pC, pZ]
     by_cases hc31 : (treeE t.2) = (0 : Int)
     ·refine do_ rfl (.bool false) (ex_neq (m := (treeE t.2)) (n := (0 : Int)) (b := false) rfl rfl (bne_eq_false_iff_eq.2 (by omega))) ?_
      simp only [pS, pN, pA, pC, pZ]
      refine wl_nil (hK47 _ _ ?_)
      refine wp_cond_false rfl ?_
      refine wp_skip ?_
      refine hK43 _ _ ?_
      refine wp_seq_k (fun K48 hK48 => ?_)
      by_cases h0 : 0 < k
      ·obtain ⟨q, hq⟩ : ∃ q, l[k - 1]? = some q := ⟨l[k - 1], List.getElem?_eq_getElem (by omega)⟩
       have hqd : l.getD (k - 1) ([], []) = q := by rw [List.getD_eq_getElem?_getD, hq]; rfl
       obtain ⟨b49, o50, ha51, xa53, xc54, xa57, xc58, c52, c56, r55, r59⟩ := Tns.get hv hq
       refine region_gw F 11 [] (by kernel_rfl) (by kernel_rfl) ?_
       simp only [List.take_succ_cons, List.take_zero]
       refine gw_pure rfl rfl (.int .i64 ((k : Nat) : Int)) (fun w60 hCw60 => pureAt_of (ex_move _)) ?_
       simp only [pS, pN, pA, pC, pZ]
       refine gw_pure rfl rfl (.bool true) (fun w60 hCw60 => pureAt_of (ex_gtr (m := ((k : Nat) : Int)) (n := (0 : Int)) (b := true) rfl rfl (decide_eq_true (by omega)))) ?_
       simp only [pS, pN, pA, pC, pZ]
       refine gw_pure rfl rfl (.bool true) (fun w60 hCw60 => pureAt_of (ex_move _)) ?_
       simp only [pS, pN, pA, pC, pZ]
       refine gw_pure rfl rfl (.slice a l.length c) (fun w60 hCw60 => pureAt_of (ex_move _)) ?_
       simp only [pS, pN, pA, pC, pZ]
       refine gw_pure rfl rfl (.int .i64 ((k : Nat) : Int)) (fun w60 hCw60 => pureAt_of (ex_move _)) ?_
       simp only [pS, pN, pA, pC, pZ]
       refine gw_pure rfl rfl (.int .i64 (((k - 1) : Nat) : Int)) (fun w60 hCw60 => pureAt_of (ex_sub (m := ((k : Nat) : Int)) (n := (1 : Int)) (r := (((k - 1) : Nat) : Int)) rfl rfl (by omega) (by omega) (by omega))) ?_
       simp only [pS, pN, pA, pC, pZ]
       refine gw_pure rfl rfl (.pointer (some ⟨b49, o50 + (k - 1) * 2, none⟩)) (fun w60 hCw60 => pureAt_of (ex_at (i := (k - 1)) (sz := 2) Try.underlying52 (sizeof_80 _) rfl ha51 rfl (by omega) rfl)) ?_
       simp only [pS, pN, pA, pC, pZ]
       refine gw_pure rfl rfl (.pointer (some ⟨b49, o50 + (k - 1) * 2, none⟩)) (fun w60 hCw60 => pureAt_of (ex_field (q := ⟨b49, o50 + (k - 1) * 2, none⟩) rfl (fa_80_0 _ _))) ?_
       simp only [pS, pN, pA, pC, pZ]
       refine gw_pure rfl rfl (.slice xa53 q.1.length xc54) (fun w60 hCw60 => pureAt_of (ex_load rfl (load1 (nagg_25 _) (St.fz (St.tells S46 hCw60) c52)))) ?_
       simp only [pS, pN, pA, pC, pZ]
       refine gw_pure rfl rfl (.pointer (some ⟨n30, 0, none⟩)) (fun w60 hCw60 => pureAt_of (ex_field (q := ⟨n30, 0, none⟩) rfl (fa_80_0 _ _))) ?_
       simp only [pS, pN, pA, pC, pZ]
       refine gw_pure rfl rfl (.slice xa23 t.1.length xc24) (fun w60 hCw60 => pureAt_of (ex_load rfl (load1 (nagg_25 _) (St.cell (St.tells S46 hCw60) (i := 0) rfl rfl)))) ?_
       simp only [pS, pN, pA, pC, pZ]
       refine gw_nil ?_
       intro w61 hC63 hF64
       clear hF64
       have S62 := St.tells S46 hC63
       simp only [List.drop_succ_cons, List.drop_zero]
       refine stTells (v := (.int .i64 (cmpL q.1 t.1))) S62 rfl (ex_fn (vs := #[(.slice xa53 q.1.length xc54), (.slice xa23 t.1.length xc24)]) (map2 rfl rfl) rfl (ent_45 _ _)) (bytesCompare_spec _ _ _ _ q.1 t.1 (S62).sat r55 r25) (fun w65 S66 => ?_)
       simp only [pS, pN, pA, pC, pZ]
       by_cases hc45 : (0 : Int) ≤ (cmpL q.1 t.1)
       ·refine do_ rfl (.bool true) (ex_geq (m := (cmpL q.1 t.1)) (n := (0 : Int)) (b := true) rfl rfl (decide_eq_true (by omega))) ?_
        simp only [pS, pN, pA, pC, pZ]
        refine do_ rfl (.bool true) (ex_pick (b := true) rfl) ?_
        simp only [pS, pN, pA, pC, pZ]
        refine wl_nil (hK48 _ _ ?_)
        refine wp_cond_true rfl ?_
        refine wp_seq_k (fun K67 hK67 => region_wl ?_)
        refine do_ rfl (.int .i64 3) (ex_assign _) ?_
        simp only [pS, pN, pA, pC, pZ]
        refine wl_nil (hK67 _ _ ?_)
        refine wp_ret ?_
        (try simp only [Exit.then, Exit.inBlock, ↓reduceIte, Nat.reduceEqDiff])
        refine bodyPost_ret (v := (.int .i64 3)) ?_ rfl ?_
        ·exact res_t rfl rfl
        ·exact ⟨by unfold forestE; rw [if_neg (by omega), hT, forestAt_at hp, if_neg (by omega), if_neg (by omega), if_neg (by omega), if_pos ⟨h0, by rw [hqd]; exact hc45⟩], S66.gr.below⟩
       ·refine do_ rfl (.bool false) (ex_geq (m := (cmpL q.1 t.1)) (n := (0 : Int)) (b := false) rfl rfl (decide_eq_false (by omega))) ?_
        simp only [pS, pN, pA, pC, pZ]
        refine do_ rfl (.bool false) (ex_pick (b := true) rfl) ?_
        simp only [pS, pN, pA, pC, pZ]
        refine wl_nil (hK48 _ _ ?_)
        refine wp_cond_false rfl ?_
        refine wp_skip ?_
        refine hK17 _ _ ?_
        refine region_wl ?_
        refine do_ rfl (.int .i64 (((k + 1) : Nat) : Int)) (ex_add (m := ((k : Nat) : Int)) (n := (1 : Int)) (r := (((k + 1) : Nat) : Int)) rfl rfl (by omega) (by omega) (by omega)) ?_
        simp only [pS, pN, pA, pC, pZ]
        refine do_ rfl (.int .i64 (((k + 1) : Nat) : Int)) (ex_move _) ?_
        simp only [pS, pN, pA, pC, pZ]
        refine wl_nil ?_
        have S66 := St.drop S66 (L' := []) (.cons _ (List.Sublist.refl _))
        exact hK14 _ _ _ (by omega) ⟨(k + 1), _, rfl, rfl, rfl, S66, (by omega), (by rw [hT, forestAt_at hp, if_neg (by omega), if_neg (by omega), if_neg (by omega), if_neg (fun h => hc45 (by have := h.2; rw [hqd] at this; exact this))])⟩
      ·refine region_gw F 11 [] (by kernel_rfl) (by kernel_rfl) ?_
       simp only [List.take_succ_cons, List.take_zero]
       refine gw_pure rfl rfl (.int .i64 ((k : Nat) : Int)) (fun w68 hCw68 => pureAt_of (ex_move _)) ?_
       simp only [pS, pN, pA, pC, pZ]
       refine gw_pure rfl rfl (.bool false) (fun w68 hCw68 => pureAt_of (ex_gtr (m := ((k : Nat) : Int)) (n := (0 : Int)) (b := false) rfl rfl (decide_eq_false (by omega)))) ?_
       simp only [pS, pN, pA, pC, pZ]
       refine gw_pure rfl rfl (.bool false) (fun w68 hCw68 => pureAt_of (ex_move _)) ?_
       simp only [pS, pN, pA, pC, pZ]
       refine gw_skip (wanted_no rfl rfl rfl (c := false) rfl (by decide)) ?_
       simp only [pS, pN, pA, pC, pZ]
       refine gw_skip (wanted_no rfl rfl rfl (c := false) rfl (by decide)) ?_
       simp only [pS, pN, pA, pC, pZ]
       refine gw_skip (wanted_no rfl rfl rfl (c := false) rfl (by decide)) ?_
       simp only [pS, pN, pA, pC, pZ]
       refine gw_skip (wanted_no rfl rfl rfl (c := false) rfl (by decide)) ?_
       simp only [pS, pN, pA, pC, pZ]
       refine gw_skip (wanted_no rfl rfl rfl (c := false) rfl (by decide)) ?_
       simp only [pS, pN, pA, pC, pZ]
       refine gw_skip (wanted_no rfl rfl rfl (c := false) rfl (by decide)) ?_
       simp only [pS, pN, pA, pC, pZ]
       refine gw_skip (wanted_no rfl rfl rfl (c := false) rfl (by decide)) ?_
       simp only [pS, pN, pA, pC, pZ]
       refine gw_skip (wanted_no rfl rfl rfl (c := false) rfl (by decide)) ?_
       simp only [pS, pN, pA, pC, pZ]
       refine gw_nil ?_
       intro w69 hC71 hF72
       clear hF72
       have S70 := St.tells S46 hC71
       simp only [List.drop_succ_cons, List.drop_zero]
       refine doN (wanted_no rfl rfl rfl (c := false) rfl (by decide)) ?_
       simp only [pS, pN, pA, pC, pZ]
       refine doN (wanted_no rfl rfl rfl (c := false) rfl (by decide)) ?_
       simp only [pS, pN, pA, pC, pZ]
       refine do_ rfl (.bool false) (ex_pick (b := false) rfl) ?_
       simp only [pS, pN, pA, pC, pZ]
       refine wl_nil (hK48 _ _ ?_)
       refine wp_cond_false rfl ?_
       refine wp_skip ?_
       refine hK17 _ _ ?_
       refine region_wl ?_
       refine do_ rfl (.int .i64 (((k + 1) : Nat) : Int)) (ex_add (m := ((k : Nat) : Int)) (n := (1 : Int)) (r := (((k + 1) : Nat) : Int)) rfl rfl (by omega) (by omega) (by omega)) ?_
       simp only [pS, pN, pA, pC, pZ]
       refine do_ rfl (.int .i64 (((k + 1) : Nat) : Int)) (ex_move _) ?_
       simp only [pS, pN, pA, pC, pZ]
       refine wl_nil ?_
       have S70 := St.drop S70 (L' := []) (.cons _ (List.Sublist.refl _))
       exact hK14 _ _ _ (by omega) ⟨(k + 1), _, rfl, rfl, rfl, S70, (by omega), (by rw [hT, forestAt_at hp, if_neg (by omega), if_neg (by omega), if_neg (by omega), if_neg (fun h => h0 h.1)])⟩
     ·refine do_ rfl (.bool true) (ex_neq (m := (treeE t.2)) (n := (0 : Int)) (b := true) rfl rfl (bne_iff_ne.2 (by omega))) ?_
      simp only [pS, pN, pA, pC, pZ]
      refine wl_nil (hK47 _ _ ?_)
      refine wp_cond_true rfl ?_
      refine wp_seq_k (fun K73 hK73 => region_wl ?_)
      refine do_ rfl (.int .i64 (treeE t.2)) (ex_move _) ?_
      simp only [pS, pN, pA, pC, pZ]
      refine do_ rfl (.int .i64 (treeE t.2)) (ex_assign _) ?_
      simp only [pS, pN, pA, pC, pZ]
      refine wl_nil (hK73 _ _ ?_)
      refine wp_ret ?_
      (try simp only [Exit.then, Exit.inBlock, ↓reduceIte, Nat.reduceEqDiff])
      refine bodyPost_ret (v := (.int .i64 (treeE t.2))) ?_ rfl ?_
      ·exact res_t rfl rfl
      ·exact ⟨by unfold forestE; rw [if_neg (by omega), hT, forestAt_at hp, if_neg (by omega), if_neg (by omega), if_pos hc31], S46.gr.below⟩
   ·refine do_ rfl (.bool true) (ex_neq (m := (nameN t.1.length)) (n := (0 : Int)) (b := true) rfl rfl (bne_iff_ne.2 (by omega))) ?_
    simp only [pS, pN, pA, pC, pZ]
    refine wl_nil (hK39 _ _ ?_)
    refine wp_cond_true rfl ?_
    refine wp_seq_k (fun K74 hK74 => region_wl ?_)
    refine do_ rfl (.int .i64 (nameN t.1.length)) (ex_move _) ?_
    simp only [pS, pN, pA, pC, pZ]
    refine do_ rfl (.int .i64 (nameN t.1.length)) (ex_assign _) ?_
    simp only [pS, pN, pA, pC, pZ]
    refine wl_nil (hK74 _ _ ?_)
    refine wp_ret ?_
    (try simp only [Exit.then, Exit.inBlock, ↓reduceIte, Nat.reduceEqDiff])
    refine bodyPost_ret (v := (.int .i64 (nameN t.1.length))) ?_ rfl ?_
    ·exact res_t rfl rfl
    ·exact ⟨by unfold forestE; rw [if_neg (by omega), hT, forestAt_at hp, if_pos hc21], S38.gr.below⟩
  ·refine do_ rfl (.bool false) (ex_lss (m := ((k : Nat) : Int)) (n := ((l.length : Nat) : Int)) (b := false) rfl rfl (decide_eq_false (by omega))) ?_
   simp only [pS, pN, pA, pC, pZ]
   refine wl_nil (hK15 _ _ ?_)
   refine wp_seq_k (fun K75 hK75 => ?_)
   refine wp_cond_false rfl ?_
   refine wp_exit ?_
   refine hK5 _ _ ?_
   refine wp_seq_k (fun K76 hK76 => region_wl ?_)
   refine do_ rfl (.int .i64 0) (ex_assign _) ?_
   simp only [pS, pN, pA, pC, pZ]
   refine wl_nil (hK76 _ _ ?_)
   refine wp_ret ?_
   (try simp only [Exit.then, Exit.inBlock, ↓reduceIte, Nat.reduceEqDiff])
   refine bodyPost_ret (v := (.int .i64 0)) ?_ rfl ?_
   ·exact res_t rfl rfl
   ·exact ⟨by unfold forestE; rw [if_neg (by omega), hT, forestAt_end (by omega)], S12.gr.below⟩
set_option maxHeartbeats 8000000 in
theorem checkedT_spec (F : Fz) (w : World) (v u : Value) (l : Forest) (k : By) (hs : Sat w F) (hv : Tns F v l) (hu : Bs F u k) (ok1 : ForestOk 60 l) :
    Calls Try.prog 36 #[v, u] w (Tells w (.int .i64 (nameN k.length))) := by
 have ok := forestE_ok.2 ok1
 obtain ⟨a, c, rfl, hc1, hc2⟩ := Sl.shape hv
 obtain ⟨a2, c2, rfl, _⟩ := hu.shape
 have S := St.start hs
 go_enter Try.func36, Try.ntmps36
 refine wp_seq_k (fun K1 hK1 => region_wl ?_)
 refine do_ rfl (.int .i64 0) (ex_assign _) ?_
 simp only [pS, pN, pA, pC, pZ]
 refine wl_nil (hK1 _ _ ?_)
 refine wp_seq_k (fun K2 hK2 => ?_)
 refine wp_seq_k (fun K3 hK3 => region_wl ?_)
 refine do_ rfl (.slice a l.length c) (ex_move _) ?_
 simp only [pS, pN, pA, pC, pZ]
 refine stTells (v := (.int .i64 (forestE l))) S rfl (ex_fn (vs := #[(.slice a l.length c)]) (map1 rfl) rfl (ent_38 _ _)) (forestCheck_spec _ _ _ l (S).sat hv) (fun w4 S5 => ?_)
 simp only [pS, pN, pA, pC, pZ]
 refine do_ rfl (.int .i64 (forestE l)) (ex_assign _) ?_
 simp only [pS, pN, pA, pC, pZ]
 refine wl_nil (hK3 _ _ ?_)
 refine wp_seq_k (fun K6 hK6 => region_wl ?_)
 refine do_ rfl (.int .i64 (forestE l)) (ex_move _) ?_
 simp only [pS, pN, pA, pC, pZ]
 refine do_ rfl (.bool false) (ex_neq (m := (forestE l)) (n := (0 : Int)) (b := false) rfl rfl (bne_eq_false_iff_eq.2 (ok))) ?_
 simp only [pS, pN, pA, pC, pZ]
 refine wl_nil (hK6 _ _ ?_)
 refine wp_cond_false rfl ?_
 refine wp_skip ?_
 refine hK2 _ _ ?_
 refine wp_seq_k (fun K7 hK7 => region_wl ?_)
 refine do_ rfl (.slice a2 k.length c2) (ex_move _) ?_
 simp only [pS, pN, pA, pC, pZ]
 refine stTells (v := (.int .i64 (nameN k.length))) S5 rfl (ex_fn (vs := #[(.slice a2 k.length c2)]) (map1 rfl) rfl (ent_51 _ _)) (tells_same (name_len _ _ _ _)) (fun w8 S9 => ?_)
 simp only [pS, pN, pA, pC, pZ]
 refine do_ rfl (.int .i64 (nameN k.length)) (ex_assign _) ?_
 simp only [pS, pN, pA, pC, pZ]
 refine wl_nil (hK7 _ _ ?_)
 refine wp_ret ?_
 (try simp only [Exit.then, Exit.inBlock, ↓reduceIte, Nat.reduceEqDiff])
 refine bodyPost_ret (v := (.int .i64 (nameN k.length))) ?_ rfl ?_
 ·exact res_t rfl rfl
 ·exact ⟨rfl, S9.gr.below⟩
end Go.Proofs.Ytlimmmidfhpakaa
namespace Go.Proofs.Ytlimmmidfhpakaa
open Go.RowKit
set_option maxRecDepth 100000
set_option linter.unusedVariables false
set_option linter.unusedSimpArgs false
theorem TnC.one (F : Fz) (cs : List Value) (p : By × List Pr) (h : TnC F cs p) : ∀ u ∈ cs, u.oneCell' = true := h.oneCell
theorem ForestOk.small {f : Forest} (h : ForestOk 60 f) {t : By × List Pr} (ht : t ∈ f) : t.1.length ≤ 100000 ∧ t.2.length ≤ 60 ∧ ∀ p ∈ t.2, p.1.length ≤ 100000 ∧ p.2.length ≤ 100000 := by
  have h1 := h.name t ht
  have h2 := h.tree t ht
  exact ⟨by have := h1.2; omega, h2.len, fun p hp => h2.small hp⟩
set_option maxHeartbeats 8000000 in
theorem ownT_spec (F : Fz) (w : World) (v : Value) (l : Forest) (hs : Sat w F) (hv : Tns F v l) (hl : l.length ≤ 100000) (hL : ∀ t ∈ l, t.1.length ≤ 100000 ∧ t.2.length ≤ 60 ∧ ∀ p ∈ t.2, p.1.length ≤ 100000 ∧ p.2.length ≤ 100000) :
    Calls Try.prog 39 #[v] w (GivesO w F 2 TnC 80 l) := by
 obtain ⟨a, c, rfl, hc1, hc2⟩ := Sl.shape hv
 unfold maxLen at hc2
 obtain ⟨i36, hi36, hz36, hs36, hb36⟩ := info_parts info_36
 obtain ⟨i80, hi80, hz80, hs80, hb80⟩ := info_parts info_80
 have S := St.start hs
 go_enter Try.func39, Try.ntmps39
 refine wp_seq_k (fun K1 hK1 => region_wl ?_)
 refine do_ rfl (.slice none 0 0) (ex_assign _) ?_
 simp only [pS, pN, pA, pC, pZ]
 refine wl_nil (hK1 _ _ ?_)
 refine wp_seq_k (fun K2 hK2 => region_wl ?_)
 refine do_ rfl (.slice none 0 0) (ex_assign _) ?_
 simp only [pS, pN, pA, pC, pZ]
 refine wl_nil (hK2 _ _ ?_)
 refine wp_seq_k (fun K3 hK3 => ?_)
 refine wp_seq_k (fun K4 hK4 => region_wl ?_)
 refine do_ rfl (.slice a l.length c) (ex_move _) ?_
 simp only [pS, pN, pA, pC, pZ]
 refine do_ rfl (.int .i64 ((l.length : Nat) : Int)) (ex_len Try.underlying52 rfl) ?_
 simp only [pS, pN, pA, pC, pZ]
 refine do_ rfl (.int .i64 0) (ex_move _) ?_
 simp only [pS, pN, pA, pC, pZ]
 refine wl_nil (hK4 _ _ ?_)
 refine wp_block ?_
 have S5 := St.addNil S 2 TnC TnC.mono 80 w.heap.size
 refine wp_loop_g (fun mm aa w8 => ∃ (k : Nat) (v : Value) (F6 : Fz) (u7 : Nat → Value), mm = l.length - k ∧ u7 = slots aa ∧ aa = ⟨#[(.slice a l.length c), undef, (.slice none 0 0), v, undef, (u7 5), (u7 6), undef, (u7 8), (.slice a l.length c), (.int .i64 ((l.length : Nat) : Int)), (.int .i64 ((k : Nat) : Int)), (u7 12), (u7 13), (u7 14), (u7 15), (u7 16), (u7 17), (u7 18), (u7 19), (u7 20), (u7 21), (u7 22), (u7 23), (u7 24), (u7 25), (u7 26), (u7 27), (u7 28), (u7 29), (u7 30), (u7 31), (u7 32), (u7 33), (u7 34), (u7 35), (u7 36), (u7 37), (u7 38), (u7 39), (u7 40), (u7 41), (u7 42), (u7 43), undef], []⟩ ∧ St w F w8 F6 [] [ownP 2 TnC TnC.mono 80 w.heap.size v (l.take k)] ∧ Le F F6 ∧ (k ≤ l.length)) _ ⟨0, (.slice none 0 0), F, _, rfl, rfl, rfl, S5, Le.refl _, (by omega)⟩ ?_
 rintro m9 a10 w11 ⟨k, v, F6, u7, rfl, -, rfl, S12, le13, hk⟩ K14 hK14
 refine wp_seq_k (fun K15 hK15 => region_wl ?_)
 by_cases hc12 : k < l.length
 ·refine do_ rfl (.bool true) (ex_lss (m := ((k : Nat) : Int)) (n := ((l.length : Nat) : Int)) (b := true) rfl rfl (decide_eq_true (by omega))) ?_
  simp only [pS, pN, pA, pC, pZ]
  refine wl_nil (hK15 _ _ ?_)
  refine wp_seq_k (fun K16 hK16 => ?_)
  refine wp_cond_true rfl ?_
  refine wp_skip ?_
  refine hK16 _ _ ?_
  refine wp_seq_k (fun K17 hK17 => ?_)
  refine wp_block ?_
  refine wp_seq_k (fun K18 hK18 => ?_)
  obtain ⟨t, ht⟩ : ∃ t, l[k]? = some t := ⟨l[k], List.getElem?_eq_getElem hc12⟩
  obtain ⟨hs1, hs2, hs3⟩ := hL t (List.mem_of_getElem? ht)
  have htk : (l.take k).length = k := by rw [List.length_take]; omega
  obtain ⟨b19, o20, ha21, xa23, xc24, xa27, xc28, c22, c26, r25, r29⟩ := Tns.get (hv.mono le13) ht
  refine region_wl ?_
  refine do_ rfl (.pointer (some ⟨b19, o20 + k * 2, none⟩)) (ex_at (i := k) (sz := 2) Try.underlying52 (sizeof_80 _) rfl ha21 rfl (by omega) rfl) ?_
  simp only [pS, pN, pA, pC, pZ]
  refine do_ rfl (.agg #[(.slice xa23 t.1.length xc24), (.slice xa27 t.2.length xc28)]) (ex_load rfl (loadN (cs := [(.slice xa23 t.1.length xc24), (.slice xa27 t.2.length xc28)]) Try.underlying80 rfl (size_80) (range2 (St.fz S12 c22) (St.fz S12 c26)))) ?_
  simp only [pS, pN, pA, pC, pZ]
  refine stNew S12 (v := fun n => .pointer (some ⟨n, 0, none⟩)) rfl (ex_alloc (zero_80 _)) (fun n30 w31 S32 => ?_)
  simp only [pS, pN, pA, pC, pZ]
  have S32 : St w F w31 F6 [⟨n30, [(.slice none 0 0), (.slice none 0 0)], 80⟩] [ownP 2 TnC TnC.mono 80 w.heap.size v (l.take k)] := S32
  refine stStore (i := 0) (v := (.agg #[(.slice xa23 t.1.length xc24), (.slice xa27 t.2.length xc28)])) S32 rfl rfl rfl rfl (size_80) (allc2 rfl rfl) (Nat.le_of_ble_eq_true rfl) (fun w33 S34 => ?_)
  simp only [pS, pN, pA, pC, pZ]
  have S34 : St w F w33 F6 [⟨n30, [(.slice xa23 t.1.length xc24), (.slice xa27 t.2.length xc28)], 80⟩] [ownP 2 TnC TnC.mono 80 w.heap.size v (l.take k)] := S34
  refine wl_nil (hK18 _ _ ?_)
  refine wp_seq_k (fun K35 hK35 => region_wl ?_)
  refine do_ rfl (.pointer (some ⟨n30, 0, none⟩)) (ex_field (q := ⟨n30, 0, none⟩) rfl (fa_80_0 _ _)) ?_
  simp only [pS, pN, pA, pC, pZ]
  refine do_ rfl (.slice xa23 t.1.length xc24) (ex_load rfl (load1 (nagg_25 _) (St.cell S34 (i := 0) rfl rfl))) ?_
  simp only [pS, pN, pA, pC, pZ]
  refine stGives S34 rfl (ex_fn (vs := #[(.slice xa23 t.1.length xc24)]) (map1 rfl) rfl (ent_30 _ _)) (clone_spec _ _ _ t.1 (S34).sat r25 (by omega)) ?_
  intro v41 w36 F38 S37 le39 R40
  obtain ⟨xa42, xc43, rfl, _⟩ := R40.shape
  simp only [pS, pN, pA, pC, pZ]
  refine do_ rfl (.agg #[(.slice xa42 t.1.length xc43), (.slice none 0 0)]) (ex_build (ps := #[(0, (.slice xa42 t.1.length xc43))]) (bmap1 rfl) (by kernel_rfl)) ?_
  simp only [pS, pN, pA, pC, pZ]
  refine stNew S37 (v := fun n => .pointer (some ⟨n, 0, none⟩)) rfl (ex_alloc (zero_80 _)) (fun n44 w45 S46 => ?_)
  simp only [pS, pN, pA, pC, pZ]
  have S46 : St w F w45 F38 [⟨n44, [(.slice none 0 0), (.slice none 0 0)], 80⟩, ⟨n30, [(.slice xa23 t.1.length xc24), (.slice xa27 t.2.length xc28)], 80⟩] [ownP 2 TnC TnC.mono 80 w.heap.size v (l.take k)] := S46
  refine stStore (i := 0) (v := (.agg #[(.slice xa42 t.1.length xc43), (.slice none 0 0)])) S46 rfl rfl rfl rfl (size_80) (allc2 rfl rfl) (Nat.le_of_ble_eq_true rfl) (fun w47 S48 => ?_)
  simp only [pS, pN, pA, pC, pZ]
  have S48 : St w F w47 F38 [⟨n44, [(.slice xa42 t.1.length xc43), (.slice none 0 0)], 80⟩, ⟨n30, [(.slice xa23 t.1.length xc24), (.slice xa27 t.2.length xc28)], 80⟩] [ownP 2 TnC TnC.mono 80 w.heap.size v (l.take k)] := S48
  refine wl_nil (hK35 _ _ ?_)
  refine wp_seq_k (fun K49 hK49 => ?_)
  refine wp_seq_k (fun K50 hK50 => region_wl ?_)
  refine do_ rfl (.pointer (some ⟨n30, 1, none⟩)) (ex_field (q := ⟨n30, 1, none⟩) rfl (fa_80_1 _ _)) ?_
  simp only [pS, pN, pA, pC, pZ]
  refine do_ rfl (.slice xa27 t.2.length xc28) (ex_load rfl (load1 (nagg_23 _) (St.cell S48 (i := 1) rfl rfl))) ?_
  simp only [pS, pN, pA, pC, pZ]
  refine do_ rfl (.int .i64 ((t.2.length : Nat) : Int)) (ex_len Try.underlying23 rfl) ?_
  simp only [pS, pN, pA, pC, pZ]
  refine do_ rfl (.int .i64 0) (ex_move _) ?_
  simp only [pS, pN, pA, pC, pZ]
  refine wl_nil (hK50 _ _ ?_)
  refine wp_block ?_
  have S51 := St.addNil S48 2 PrC PrC.mono 36 w.heap.size
  refine wp_loop_g (fun mm aa w54 => ∃ (j : Nat) (v2 : Value) (F52 : Fz) (u53 : Nat → Value), mm = t.2.length - j ∧ u53 = slots aa ∧ aa = ⟨#[(.slice a l.length c), undef, (.slice none 0 0), v, undef, (.pointer (some ⟨n30, 0, none⟩)), (.pointer (some ⟨n44, 0, none⟩)), undef, (u53 8), (.slice a l.length c), (.int .i64 ((l.length : Nat) : Int)), (.int .i64 ((k : Nat) : Int)), (.bool true), (.pointer (some ⟨b19, o20 + k * 2, none⟩)), (.agg #[(.slice xa23 t.1.length xc24), (.slice xa27 t.2.length xc28)]), (.pointer (some ⟨n30, 0, none⟩)), (.slice xa23 t.1.length xc24), (.slice xa42 t.1.length xc43), (.agg #[(.slice xa42 t.1.length xc43), (.slice none 0 0)]), (.pointer (some ⟨n30, 1, none⟩)), (.slice xa27 t.2.length xc28), (.int .i64 ((t.2.length : Nat) : Int)), (.int .i64 ((j : Nat) : Int)), (u53 23), (u53 24), (u53 25), (u53 26), (u53 27), (u53 28), (u53 29), (u53 30), (u53 31), (u53 32), (u53 33), (u53 34), (u53 35), (u53 36), (u53 37), (u53 38), (u7 39), (u7 40), (u7 41), (u7 42), (u7 43), undef], []⟩ ∧ St w F w54 F52 [⟨n44, [(.slice xa42 t.1.length xc43), v2], 80⟩, ⟨n30, [(.slice xa23 t.1.length xc24), (.slice xa27 t.2.length xc28)], 80⟩] [ownP 2 PrC PrC.mono 36 w.heap.size v2 (t.2.take j), ownP 2 TnC TnC.mono 80 w.heap.size v (l.take k)] ∧ Le F38 F52 ∧ (j ≤ t.2.length)) _ ⟨0, (.slice none 0 0), F38, _, rfl, rfl, rfl, S51, Le.refl _, (by omega)⟩ ?_
  rintro m55 a56 w57 ⟨j, v2, F52, u53, rfl, -, rfl, S58, le59, hj⟩ K60 hK60
  refine wp_seq_k (fun K61 hK61 => region_wl ?_)
  by_cases hc23 : j < t.2.length
  ·refine do_ rfl (.bool true) (ex_lss (m := ((j : Nat) : Int)) (n := ((t.2.length : Nat) : Int)) (b := true) rfl rfl (decide_eq_true (by omega))) ?_
   simp only [pS, pN, pA, pC, pZ]
   refine wl_nil (hK61 _ _ ?_)
   refine wp_seq_k (fun K62 hK62 => ?_)
   refine wp_cond_true rfl ?_
   refine wp_skip ?_
   refine hK62 _ _ ?_
   refine wp_seq_k (fun K63 hK63 => ?_)
   refine wp_block ?_
   refine wp_seq_k (fun K64 hK64 => ?_)
   obtain ⟨p, hp⟩ : ∃ p, t.2[j]? = some p := ⟨t.2[j], List.getElem?_eq_getElem hc23⟩
   obtain ⟨hp1, hp2⟩ := hs3 p (List.mem_of_getElem? hp)
   have hpk : (t.2.take j).length = j := by rw [List.length_take]; omega
   obtain ⟨b65, o66, ha67, xa69, xc70, xa73, xc74, c68, c72, r71, r75⟩ := Prs.get (r29.mono (le39.trans le59)) hp
   refine region_wl ?_
   refine do_ rfl (.pointer (some ⟨b65, o66 + j * 2, none⟩)) (ex_at (i := j) (sz := 2) Try.underlying23 (sizeof_36 _) rfl ha67 rfl (by omega) rfl) ?_
   simp only [pS, pN, pA, pC, pZ]
   refine do_ rfl (.agg #[(.slice xa69 p.1.length xc70), (.slice xa73 p.2.length xc74)]) (ex_load rfl (loadN (cs := [(.slice xa69 p.1.length xc70), (.slice xa73 p.2.length xc74)]) Try.underlying36 rfl (size_36) (range2 (St.fz S58 c68) (St.fz S58 c72)))) ?_
   simp only [pS, pN, pA, pC, pZ]
   refine stNew S58 (v := fun n => .pointer (some ⟨n, 0, none⟩)) rfl (ex_alloc (zero_36 _)) (fun n76 w77 S78 => ?_)
   simp only [pS, pN, pA, pC, pZ]
   have S78 : St w F w77 F52 [⟨n76, [(.slice none 0 0), (.slice none 0 0)], 36⟩, ⟨n44, [(.slice xa42 t.1.length xc43), v2], 80⟩, ⟨n30, [(.slice xa23 t.1.length xc24), (.slice xa27 t.2.length xc28)], 80⟩] [ownP 2 PrC PrC.mono 36 w.heap.size v2 (t.2.take j), ownP 2 TnC TnC.mono 80 w.heap.size v (l.take k)] := S78
   refine stStore (i := 0) (v := (.agg #[(.slice xa69 p.1.length xc70), (.slice xa73 p.2.length xc74)])) S78 rfl rfl rfl rfl (size_36) (allc2 rfl rfl) (Nat.le_of_ble_eq_true rfl) (fun w79 S80 => ?_)
   simp only [pS, pN, pA, pC, pZ]
   have S80 : St w F w79 F52 [⟨n76, [(.slice xa69 p.1.length xc70), (.slice xa73 p.2.length xc74)], 36⟩, ⟨n44, [(.slice xa42 t.1.length xc43), v2], 80⟩, ⟨n30, [(.slice xa23 t.1.length xc24), (.slice xa27 t.2.length xc28)], 80⟩] [ownP 2 PrC PrC.mono 36 w.heap.size v2 (t.2.take j), ownP 2 TnC TnC.mono 80 w.heap.size v (l.take k)] := S80
   refine wl_nil (hK64 _ _ ?_)
   refine region_gw F52 10 [(4, .made (fun F' u => Bs F' u p.1)), (7, .made (fun F' u => Bs F' u p.2)), (8, .made (fun F' u => Pr2V F' u (p.1, p.2))), (9, .made (fun F' u => Prs F' u [(p.1, p.2)]))] (by kernel_rfl) (by kernel_rfl) ?_
   simp only [List.take_succ_cons, List.take_zero]
   refine gw_pure rfl rfl (.pointer (some ⟨n44, 1, none⟩)) (fun w81 hCw81 => pureAt_of (ex_field (q := ⟨n44, 1, none⟩) rfl (fa_80_1 _ _))) ?_
   simp only [pS, pN, pA, pC, pZ]
   refine gw_pure rfl rfl v2 (fun w81 hCw81 => pureAt_of (ex_load rfl (load1 (nagg_23 _) (St.cell (St.tells S80 hCw81) (i := 1) rfl rfl)))) ?_
   simp only [pS, pN, pA, pC, pZ]
   refine gw_pure rfl rfl (.pointer (some ⟨n76, 0, none⟩)) (fun w81 hCw81 => pureAt_of (ex_field (q := ⟨n76, 0, none⟩) rfl (fa_36_0 _ _))) ?_
   simp only [pS, pN, pA, pC, pZ]
   refine gw_pure rfl rfl (.slice xa69 p.1.length xc70) (fun w81 hCw81 => pureAt_of (ex_load rfl (load1 (nagg_25 _) (St.cell (St.tells S80 hCw81) (i := 0) rfl rfl)))) ?_
   simp only [pS, pN, pA, pC, pZ]
   refine gw_rel rfl rfl (fun w81 hCw81 hF => does_call (ex_fn (vs := #[(.slice xa69 p.1.length xc70)]) (map1 rfl) rfl (ent_30 _ _)) (call_made S80.sat hCw81 (clone_spec _ _ _ p.1 ((St.tells S80 hCw81)).sat r71 (by omega)))) (fun v82 => ?_)
   simp only [pS, pN, pA, pC, pZ]
   refine gw_pure rfl rfl (.pointer (some ⟨n76, 1, none⟩)) (fun w81 hCw81 => pureAt_of (ex_field (q := ⟨n76, 1, none⟩) rfl (fa_36_1 _ _))) ?_
   simp only [pS, pN, pA, pC, pZ]
   refine gw_pure rfl rfl (.slice xa73 p.2.length xc74) (fun w81 hCw81 => pureAt_of (ex_load rfl (load1 (nagg_25 _) (St.cell (St.tells S80 hCw81) (i := 0) rfl rfl)))) ?_
   simp only [pS, pN, pA, pC, pZ]
   refine gw_rel rfl rfl (fun w81 hCw81 hF => does_call (ex_fn (vs := #[(.slice xa73 p.2.length xc74)]) (map1 rfl) rfl (ent_30 _ _)) (call_made S80.sat hCw81 (clone_spec _ _ _ p.2 ((St.tells S80 hCw81)).sat r75 (by omega)))) (fun v83 => ?_)
   simp only [pS, pN, pA, pC, pZ]
   refine gw_rel rfl rfl (fun w81 hCw81 hF_ => ?_) (fun v84 => ?_)
   ·obtain ⟨F85, g86, R87⟩ := hF_.get 4 (by kernel_rfl) rfl rfl
    obtain ⟨F90, g91, R92⟩ := hF_.get 7 (by kernel_rfl) rfl rfl
    have hR0 := (R87.mono (both_left F85 F90))
    obtain ⟨xa95, xc96, rfl, _⟩ := hR0.shape
    have hR1 := (R92.mono (both_right g86.sat g91.sat))
    obtain ⟨xa97, xc98, rfl, _⟩ := hR1.shape
    exact does_val (ex_build (bmap2 rfl rfl) (by kernel_rfl)) ⟨(both F85 F90), (g86.both g91), ⟨_, _, _, _, rfl, hR0, hR1⟩⟩ (Below.refl _ _)
   simp only [pS, pN, pA, pC, pZ]
   refine gw_rel rfl rfl (fun w81 hCw81 hF_ => ?_) (fun v108 => ?_)
   ·obtain ⟨F105, g106, R107⟩ := hF_.get 8 (by kernel_rfl) rfl rfl
    obtain ⟨xa99, xc100, xa102, xc103, rfl, r101, r104⟩ := R107
    exact does_lit (k := 2) (R := PrC) (hR := PrC.mono) (p := (p.1, p.2)) (cs := [.slice xa99 _ xc100, .slice xa102 _ xc103]) (E := 36) g106 ⟨_, _, rfl, r101, r104⟩ rfl (ex_lit (E := 36) (cells := #[.slice xa99 _ xc100, .slice xa102 _ xc103]) (bmap1 rfl) (fun w => by kernel_rfl))
   simp only [pS, pN, pA, pC, pZ]
   refine gw_nil ?_
   intro w109 hC111 hF112
   obtain ⟨F113, g114, R115⟩ := hF112.get 9 rfl rfl
   have S110 := St.gives S80 g114
   have le117 : Le _ _ := g114.le S80.sat
   have R118 := R115
   generalize F113 = F116 at *
   obtain ⟨xa119, xc120, rfl, _⟩ := Sl.shape R118
   clear hF112
   simp only [List.drop_succ_cons, List.drop_zero]
   refine stAppendS (r := 0) (u := (.slice xa119 [(p.1, p.2)].length xc120)) S110 rfl i36 (.agg #[(.slice none 0 0), (.slice none 0 0)]) 48 Try.underlying23 hi36 hz36 hs36 hb36 rfl (by decide) rfl rfl rfl (Sl.toW R118 (S110).sat) (fun F cs p h => PrC.one F cs p h) (Nat.le_refl _) S110.gr.below.size (by unfold maxLen; simp only [List.length_take, List.length_cons, List.length_nil]; omega) (by simp only [List.length_take, List.length_cons, List.length_nil]; omega) ?_
   intro v121 w122 S123 hn124
   simp only [pS, pN, pA, pC, pZ]
   have S123 : St w F w122 F116 [⟨n76, [(.slice xa69 p.1.length xc70), (.slice xa73 p.2.length xc74)], 36⟩, ⟨n44, [(.slice xa42 t.1.length xc43), v2], 80⟩, ⟨n30, [(.slice xa23 t.1.length xc24), (.slice xa27 t.2.length xc28)], 80⟩] [ownP 2 PrC PrC.mono 36 w.heap.size v121 ((t.2.take j) ++ [(p.1, p.2)]), ownP 2 TnC TnC.mono 80 w.heap.size v (l.take k)] := S123
   obtain ⟨a125, cap126, rfl, h127, h128⟩ := (S123.own (i := 0) rfl).shape
   unfold maxLen at h128
   refine do_ rfl (.pointer (some ⟨n44, 1, none⟩)) (ex_field (q := ⟨n44, 1, none⟩) rfl (fa_80_1 _ _)) ?_
   simp only [pS, pN, pA, pC, pZ]
   refine stStore (i := 1) (v := (.slice a125 ((t.2.take j) ++ [(p.1, p.2)]).length cap126)) S123 rfl rfl rfl rfl (size_23) (allc1 rfl) (Nat.le_of_ble_eq_true rfl) (fun w129 S130 => ?_)
   simp only [pS, pN, pA, pC, pZ]
   have S130 : St w F w129 F116 [⟨n76, [(.slice xa69 p.1.length xc70), (.slice xa73 p.2.length xc74)], 36⟩, ⟨n44, [(.slice xa42 t.1.length xc43), (.slice a125 ((t.2.take j) ++ [(p.1, p.2)]).length cap126)], 80⟩, ⟨n30, [(.slice xa23 t.1.length xc24), (.slice xa27 t.2.length xc28)], 80⟩] [ownP 2 PrC PrC.mono 36 w.heap.size (.slice a125 ((t.2.take j) ++ [(p.1, p.2)]).length cap126) ((t.2.take j) ++ [(p.1, p.2)]), ownP 2 TnC TnC.mono 80 w.heap.size v (l.take k)] := S130
   refine wl_nil (hK63 _ _ ?_)
   refine region_wl ?_
   refine do_ rfl (.int .i64 (((j + 1) : Nat) : Int)) (ex_add (m := ((j : Nat) : Int)) (n := (1 : Int)) (r := (((j + 1) : Nat) : Int)) rfl rfl (by omega) (by omega) (by omega)) ?_
   simp only [pS, pN, pA, pC, pZ]
   refine do_ rfl (.int .i64 (((j + 1) : Nat) : Int)) (ex_move _) ?_
   simp only [pS, pN, pA, pC, pZ]
   refine wl_nil ?_
   have S130 := St.drop S130 (L' := [⟨n44, [(.slice xa42 t.1.length xc43), (.slice a125 ((t.2.take j) ++ [(p.1, p.2)]).length cap126)], 80⟩, ⟨n30, [(.slice xa23 t.1.length xc24), (.slice xa27 t.2.length xc28)], 80⟩]) (.cons _ (List.Sublist.refl _))
   rw [← take_snoc hp] at S130
   exact hK60 _ _ _ (by omega) ⟨(j + 1), (.slice a125 (t.2.take (j + 1)).length cap126), F116, _, rfl, rfl, rfl, S130, (le59.trans le117), (by omega)⟩
  ·refine do_ rfl (.bool false) (ex_lss (m := ((j : Nat) : Int)) (n := ((t.2.length : Nat) : Int)) (b := false) rfl rfl (decide_eq_false (by omega))) ?_
   simp only [pS, pN, pA, pC, pZ]
   refine wl_nil (hK61 _ _ ?_)
   refine wp_seq_k (fun K131 hK131 => ?_)
   refine wp_cond_false rfl ?_
   refine wp_exit ?_
   refine hK49 _ _ ?_
   have hj2 : t.2.take j = t.2 := List.take_of_length_le (by omega)
   rw [hj2] at S58
   obtain ⟨F132, S133, le134, hv135⟩ := St.freeze S58 (i := 0) rfl (Nat.le_refl _)
   have S133 : St w F w57 F132 [⟨n44, [(.slice xa42 t.1.length xc43), v2], 80⟩, ⟨n30, [(.slice xa23 t.1.length xc24), (.slice xa27 t.2.length xc28)], 80⟩] [ownP 2 TnC TnC.mono 80 w.heap.size v (l.take k)] := S133
   have hv135 : Prs _ v2 t.2 := hv135
   obtain ⟨a136, c137, rfl, h138, h139⟩ := Sl.shape hv135
   unfold maxLen at h139
   refine region_wl ?_
   refine do_ rfl v (ex_move _) ?_
   simp only [pS, pN, pA, pC, pZ]
   refine do_ rfl (.agg #[(.slice xa42 t.1.length xc43), (.slice a136 t.2.length c137)]) (ex_load rfl (loadN (cs := [(.slice xa42 t.1.length xc43), (.slice a136 t.2.length c137)]) Try.underlying80 rfl (size_80) (St.range S133 (i := 0) rfl 0 [(.slice xa42 t.1.length xc43), (.slice a136 t.2.length c137)] (sub_range 0 rfl)))) ?_
   simp only [pS, pN, pA, pC, pZ]
   refine stNew S133 (v := fun n => .slice (some ⟨n, 0, none⟩) 1 1) rfl (ex_lit (ps := #[(0, (.agg #[(.slice xa42 t.1.length xc43), (.slice a136 t.2.length c137)]))]) (cells := #[(.slice xa42 t.1.length xc43), (.slice a136 t.2.length c137)]) (E := 80) (bmap1 rfl) (fun w => by kernel_rfl)) (fun n140 w141 S142 => ?_)
   simp only [pS, pN, pA, pC, pZ]
   have S142 : St w F w141 F132 [⟨n140, [(.slice xa42 t.1.length xc43), (.slice a136 t.2.length c137)], 80⟩, ⟨n44, [(.slice xa42 t.1.length xc43), (.slice a136 t.2.length c137)], 80⟩, ⟨n30, [(.slice xa23 t.1.length xc24), (.slice xa27 t.2.length xc28)], 80⟩] [ownP 2 TnC TnC.mono 80 w.heap.size v (l.take k)] := S142
   refine stPush (i := 0) (r := 0) (p := t) (cs := [(.slice xa42 t.1.length xc43), (.slice a136 t.2.length c137)]) S142 rfl i80 (.agg #[(.slice none 0 0), (.slice none 0 0)]) 48 Try.underlying52 hi80 hz80 hs80 hb80 rfl (by decide) rfl rfl rfl rfl rfl (TnC.oneCell (p := t) ⟨_, _, rfl, (R40.mono (le59.trans le134)), hv135⟩) (⟨_, _, rfl, (R40.mono (le59.trans le134)), hv135⟩) (Nat.le_refl _) S142.gr.below.size (by unfold maxLen; omega) (by omega) ?_
   intro v143 w144 S145 hn146
   simp only [pS, pN, pA, pC, pZ]
   have S145 := St.drop S145 (L' := [⟨n44, [(.slice xa42 t.1.length xc43), (.slice a136 t.2.length c137)], 80⟩, ⟨n30, [(.slice xa23 t.1.length xc24), (.slice xa27 t.2.length xc28)], 80⟩]) (.cons _ (List.Sublist.refl _))
   have S145 : St w F w144 F132 [⟨n44, [(.slice xa42 t.1.length xc43), (.slice a136 t.2.length c137)], 80⟩, ⟨n30, [(.slice xa23 t.1.length xc24), (.slice xa27 t.2.length xc28)], 80⟩] [ownP 2 TnC TnC.mono 80 w.heap.size v143 ((l.take k) ++ [t])] := S145
   refine do_ rfl v143 (ex_assign _) ?_
   simp only [pS, pN, pA, pC, pZ]
   refine wl_nil (hK17 _ _ ?_)
   refine region_wl ?_
   refine do_ rfl (.int .i64 (((k + 1) : Nat) : Int)) (ex_add (m := ((k : Nat) : Int)) (n := (1 : Int)) (r := (((k + 1) : Nat) : Int)) rfl rfl (by omega) (by omega) (by omega)) ?_
   simp only [pS, pN, pA, pC, pZ]
   refine do_ rfl (.int .i64 (((k + 1) : Nat) : Int)) (ex_move _) ?_
   simp only [pS, pN, pA, pC, pZ]
   refine wl_nil ?_
   have S145 := St.drop S145 (L' := []) (.cons _ (.cons _ (List.Sublist.refl _)))
   rw [← take_snoc ht] at S145
   exact hK14 _ _ _ (by omega) ⟨(k + 1), v143, F132, _, rfl, rfl, rfl, S145, (((le13.trans le39).trans le59).trans le134), (by omega)⟩
 ·refine do_ rfl (.bool false) (ex_lss (m := ((k : Nat) : Int)) (n := ((l.length : Nat) : Int)) (b := false) rfl rfl (decide_eq_false (by omega))) ?_
  simp only [pS, pN, pA, pC, pZ]
  refine wl_nil (hK15 _ _ ?_)
  refine wp_seq_k (fun K147 hK147 => ?_)
  refine wp_cond_false rfl ?_
  refine wp_exit ?_
  refine hK3 _ _ ?_
  refine wp_seq_k (fun K148 hK148 => region_wl ?_)
  refine do_ rfl v (ex_move _) ?_
  simp only [pS, pN, pA, pC, pZ]
  refine do_ rfl v (ex_assign _) ?_
  simp only [pS, pN, pA, pC, pZ]
  refine wl_nil (hK148 _ _ ?_)
  refine wp_ret ?_
  (try simp only [Exit.then, Exit.inBlock, ↓reduceIte, Nat.reduceEqDiff])
  refine bodyPost_ret (v := v) ?_ rfl ?_
  ·exact res_t rfl rfl
  ·obtain rfl : k = l.length := by omega
   exact ⟨_, _, rfl, S12.gr, by have h := St.own (i := 0) S12 rfl; rwa [List.take_length] at h⟩
end Go.Proofs.Ytlimmmidfhpakaa
