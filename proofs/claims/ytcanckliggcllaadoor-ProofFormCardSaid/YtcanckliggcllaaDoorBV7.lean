/- Rules, plain laws and walks: RP2 RP3 TD -/
import Derived.Test.YtcanckliggcllaaDoorBV6
import Derived.Test.YtcanckliggcllaaDoorBV5
namespace Go.Proofs.YtcanckliggcllaaDoor
open Go.RowKit
set_option maxRecDepth 100000
set_option linter.unusedVariables false
set_option linter.unusedSimpArgs false
theorem sub_ok {n : Nat} {l m : List Pr} (h : TreeOk n l) (hs : m.Sublist l) : TreeOk n m := ⟨Nat.le_trans hs.length_le h.len, fun p hp => h.ok p (hs.subset hp), h.rise.sublist hs⟩
theorem partedP2_spec (F : Fz) (w : World) (a : Option Addr) (c : Nat) (l : List Pr) (hs : Sat w F) (hv : Prs F (.slice a l.length c) l) (hk : KeysOk l) (h2 : 2 ≤ l.length) (h60 : l.length ≤ 60) :
    Calls Tryd.prog 42 #[.slice a l.length c] w (Tells w (.tuple #[.int .i64 (bitT l : Nat), .slice a (l.take (leftN (bitT l) l)).length c, .slice (if c = (leftN (bitT l) l) then a else a.map (·.add ((leftN (bitT l) l) * 2))) (l.drop (leftN (bitT l) l)).length (c - (leftN (bitT l) l))])) := by
  have := partedP_spec F w a c l hs hv hk h2 h60
  have hn := leftN_le (bitT l) l
  rw [List.length_take, Nat.min_eq_left hn, List.length_drop]
  exact this
theorem steps_step {n : Nat} {cur : List Pr} {k : By} {ss : List Stp} {R : List Stp × Pr} (h : (ss ++ (stepsN (n + 1) cur k).1, (stepsN (n + 1) cur k).2) = R) (h2 : 2 ≤ cur.length) (b : Bool) (hb : bitL k (bitT cur) = b) :
    ((ss ++ [(⟨bitT cur, bitL k (bitT cur), rootT (sideT (bitT cur) (!b) cur)⟩ : Stp)]) ++ (stepsN n (sideT (bitT cur) b cur) k).1, (stepsN n (sideT (bitT cur) b cur) k).2) = R := by
  rw [← h]
  unfold stepsN
  rw [if_neg (by omega), hb]
  simp only [List.append_assoc, List.cons_append, List.nil_append]
  cases n <;> rfl
theorem steps_end {n : Nat} {cur : List Pr} {k : By} {ss : List Stp} {R : List Stp × Pr} {p : Pr} (h : (ss ++ (stepsN n cur k).1, (stepsN n cur k).2) = R) (h1 : cur.length ≤ 1) (hp : cur[0]? = some p) : R = (ss, p) := by
  rw [← h]
  match cur, hp with
  | q :: l, hp =>
    simp only [List.getElem?_cons_zero, Option.some.injEq] at hp
    subst hp
    cases n with
    | zero => simp [stepsN]
    | succ n => unfold stepsN; rw [if_pos h1]; simp
theorem getBad_spec (F : Fz) (w : World) (v u : Value) (l : List Pr) (k : By) (hs : Sat w F) (hv : Prs F v l) (hu : Bs F u k) (he : treeE l ≠ 0) :
    Calls Tryd.prog 33 #[v, u] w (Tells w (.tuple #[.agg #[.bool false, .slice none 0 0], .int .i64 (treeE l)])) := by
 obtain ⟨a, c, rfl, hc1, hc2⟩ := Sl.shape hv
 obtain ⟨ka, kc, rfl, hk1, hk2⟩ := hu.shape
 unfold maxLen at hc2 hk2
 have S := St.start hs
 go_enter Tryd.func33, Tryd.ntmps33
 refine wp_seq_k (fun K1 hK1 => region_wl ?_)
 refine stNew S (v := fun n => .pointer (some ⟨n, 0, none⟩)) rfl (ex_alloc (zero_65 _)) (fun n2 w3 S4 => ?_)
 simp only [pS, pN, pA, pC, pZ]
 have S4 : St w F w3 F [⟨n2, [(.bool false), (.slice none 0 0)], 65⟩] [] := S4
 refine do_ rfl (.int .i64 0) (ex_assign _) ?_
 simp only [pS, pN, pA, pC, pZ]
 refine wl_nil (hK1 _ _ ?_)
 refine wp_seq_k (fun K5 hK5 => ?_)
 refine wp_seq_k (fun K6 hK6 => region_wl ?_)
 refine do_ rfl (.slice a l.length c) (ex_move _) ?_
 simp only [pS, pN, pA, pC, pZ]
 refine stTells (v := (.int .i64 (treeE l))) S4 rfl (ex_fn (vs := #[(.slice a l.length c)]) (map1 rfl) rfl (ent_26 _ _)) (treeCheck_spec _ _ _ l (S4).sat hv) (fun w7 S8 => ?_)
 simp only [pS, pN, pA, pC, pZ]
 refine do_ rfl (.int .i64 (treeE l)) (ex_assign _) ?_
 simp only [pS, pN, pA, pC, pZ]
 refine wl_nil (hK6 _ _ ?_)
 refine wp_seq_k (fun K9 hK9 => region_wl ?_)
 refine do_ rfl (.int .i64 (treeE l)) (ex_move _) ?_
 simp only [pS, pN, pA, pC, pZ]
 refine do_ rfl (.bool true) (ex_neq (m := (treeE l)) (n := (0 : Int)) (b := true) rfl rfl (bne_iff_ne.2 (he))) ?_
 simp only [pS, pN, pA, pC, pZ]
 refine wl_nil (hK9 _ _ ?_)
 refine wp_cond_true rfl ?_
 refine wp_seq_k (fun K10 hK10 => region_wl ?_)
 refine do_ rfl (.agg #[(.bool false), (.slice none 0 0)]) (ex_build (ps := #[]) (bmap0) (by kernel_rfl)) ?_
 simp only [pS, pN, pA, pC, pZ]
 refine do_ rfl (.int .i64 (treeE l)) (ex_move _) ?_
 simp only [pS, pN, pA, pC, pZ]
 refine stStore (i := 0) (v := (.agg #[(.bool false), (.slice none 0 0)])) S8 rfl rfl rfl rfl (size_65) (allc2 rfl rfl) (Nat.le_of_ble_eq_true rfl) (fun w11 S12 => ?_)
 simp only [pS, pN, pA, pC, pZ]
 have S12 : St w F w11 F [⟨n2, [(.bool false), (.slice none 0 0)], 65⟩] [] := S12
 refine do_ rfl (.int .i64 (treeE l)) (ex_assign _) ?_
 simp only [pS, pN, pA, pC, pZ]
 refine wl_nil (hK10 _ _ ?_)
 refine wp_ret ?_
 (try simp only [Exit.then, Exit.inBlock, ↓reduceIte, Nat.reduceEqDiff])
 refine bodyPost_ret (v := (.tuple #[(.agg #[(.bool false), (.slice none 0 0)]), (.int .i64 (treeE l))])) ?_ rfl ?_
 ·exact res_ct rfl ⟨_, rfl, loadN (cs := [(.bool false), (.slice none 0 0)]) Tryd.underlying65 rfl (size_65) (St.range S12 (i := 0) rfl 0 [(.bool false), (.slice none 0 0)] (sub_range 0 rfl))⟩ rfl
 ·exact ⟨rfl, S12.gr.below⟩
set_option maxHeartbeats 8000000 in
theorem proveBad_spec (F : Fz) (w : World) (v u : Value) (l : List Pr) (k : By) (hs : Sat w F) (hv : Prs F v l) (hu : Bs F u k) (he : treeE l ≠ 0) :
    Calls Tryd.prog 27 #[v, u] w (Tells w (.tuple #[.agg #[.bool false, .slice none 0 0, .slice none 0 0, .slice none 0 0], .int .i64 (treeE l)])) := by
 obtain ⟨a, c, rfl, hc1, hc2⟩ := Sl.shape hv
 obtain ⟨ka, kc, rfl, hk1, hk2⟩ := hu.shape
 unfold maxLen at hc2 hk2
 have S := St.start hs
 go_enter Tryd.func27, Tryd.ntmps27
 refine wp_seq_k (fun K1 hK1 => region_wl ?_)
 refine stNew S (v := fun n => .pointer (some ⟨n, 0, none⟩)) rfl (ex_alloc (zero_52 _)) (fun n2 w3 S4 => ?_)
 simp only [pS, pN, pA, pC, pZ]
 have S4 : St w F w3 F [⟨n2, [(.bool false), (.slice none 0 0), (.slice none 0 0), (.slice none 0 0)], 52⟩] [] := S4
 refine do_ rfl (.int .i64 0) (ex_assign _) ?_
 simp only [pS, pN, pA, pC, pZ]
 refine wl_nil (hK1 _ _ ?_)
 refine wp_seq_k (fun K5 hK5 => ?_)
 refine wp_seq_k (fun K6 hK6 => region_wl ?_)
 refine do_ rfl (.slice a l.length c) (ex_move _) ?_
 simp only [pS, pN, pA, pC, pZ]
 refine do_ rfl (.slice ka k.length kc) (ex_move _) ?_
 simp only [pS, pN, pA, pC, pZ]
 refine stTells (v := (.tuple #[(.agg #[(.bool false), (.slice none 0 0)]), (.int .i64 (treeE l))])) S4 rfl (ex_fn (vs := #[(.slice a l.length c), (.slice ka k.length kc)]) (map2 rfl rfl) rfl (ent_33 _ _)) (getBad_spec _ _ _ _ l k (S4).sat hv hu he) (fun w7 S8 => ?_)
 simp only [pS, pN, pA, pC, pZ]
 refine do_ rfl (.tuple #[(.agg #[(.bool false), (.slice none 0 0)]), (.int .i64 (treeE l))]) (ex_move _) ?_
 simp only [pS, pN, pA, pC, pZ]
 refine do_ rfl (.agg #[(.bool false), (.slice none 0 0)]) (ex_extract rfl rfl) ?_
 simp only [pS, pN, pA, pC, pZ]
 refine do_ rfl (.int .i64 (treeE l)) (ex_extract rfl rfl) ?_
 simp only [pS, pN, pA, pC, pZ]
 refine stNew S8 (v := fun n => .pointer (some ⟨n, 0, none⟩)) rfl (ex_alloc (zero_65 _)) (fun n9 w10 S11 => ?_)
 simp only [pS, pN, pA, pC, pZ]
 have S11 : St w F w10 F [⟨n9, [(.bool false), (.slice none 0 0)], 65⟩, ⟨n2, [(.bool false), (.slice none 0 0), (.slice none 0 0), (.slice none 0 0)], 52⟩] [] := S11
 refine stStore (i := 0) (v := (.agg #[(.bool false), (.slice none 0 0)])) S11 rfl rfl rfl rfl (size_65) (allc2 rfl rfl) (Nat.le_of_ble_eq_true rfl) (fun w12 S13 => ?_)
 simp only [pS, pN, pA, pC, pZ]
 have S13 : St w F w12 F [⟨n9, [(.bool false), (.slice none 0 0)], 65⟩, ⟨n2, [(.bool false), (.slice none 0 0), (.slice none 0 0), (.slice none 0 0)], 52⟩] [] := S13
 refine do_ rfl (.int .i64 (treeE l)) (ex_assign _) ?_
 simp only [pS, pN, pA, pC, pZ]
 refine wl_nil (hK6 _ _ ?_)
 refine wp_seq_k (fun K14 hK14 => region_wl ?_)
 refine do_ rfl (.int .i64 (treeE l)) (ex_move _) ?_
 simp only [pS, pN, pA, pC, pZ]
 refine do_ rfl (.bool true) (ex_neq (m := (treeE l)) (n := (0 : Int)) (b := true) rfl rfl (bne_iff_ne.2 (he))) ?_
 simp only [pS, pN, pA, pC, pZ]
 refine wl_nil (hK14 _ _ ?_)
 refine wp_cond_true rfl ?_
 refine wp_seq_k (fun K15 hK15 => region_wl ?_)
 refine do_ rfl (.agg #[(.bool false), (.slice none 0 0), (.slice none 0 0), (.slice none 0 0)]) (ex_build (ps := #[]) (bmap0) (by kernel_rfl)) ?_
 simp only [pS, pN, pA, pC, pZ]
 refine do_ rfl (.int .i64 (treeE l)) (ex_move _) ?_
 simp only [pS, pN, pA, pC, pZ]
 refine stStore (i := 1) (v := (.agg #[(.bool false), (.slice none 0 0), (.slice none 0 0), (.slice none 0 0)])) S13 rfl rfl rfl rfl (size_52) (allc4 rfl rfl rfl rfl) (Nat.le_of_ble_eq_true rfl) (fun w16 S17 => ?_)
 simp only [pS, pN, pA, pC, pZ]
 have S17 : St w F w16 F [⟨n9, [(.bool false), (.slice none 0 0)], 65⟩, ⟨n2, [(.bool false), (.slice none 0 0), (.slice none 0 0), (.slice none 0 0)], 52⟩] [] := S17
 refine do_ rfl (.int .i64 (treeE l)) (ex_assign _) ?_
 simp only [pS, pN, pA, pC, pZ]
 refine wl_nil (hK15 _ _ ?_)
 refine wp_ret ?_
 (try simp only [Exit.then, Exit.inBlock, ↓reduceIte, Nat.reduceEqDiff])
 refine bodyPost_ret (v := (.tuple #[(.agg #[(.bool false), (.slice none 0 0), (.slice none 0 0), (.slice none 0 0)]), (.int .i64 (treeE l))])) ?_ rfl ?_
 ·exact res_ct rfl ⟨_, rfl, loadN (cs := [(.bool false), (.slice none 0 0), (.slice none 0 0), (.slice none 0 0)]) Tryd.underlying52 rfl (size_52) (St.range S17 (i := 1) rfl 0 [(.bool false), (.slice none 0 0), (.slice none 0 0), (.slice none 0 0)] (sub_range 0 rfl))⟩ rfl
 ·exact ⟨rfl, S17.gr.below⟩
set_option maxHeartbeats 8000000 in
theorem proveNil_spec (F : Fz) (w : World) (v u : Value) (l : List Pr) (k : By) (hs : Sat w F) (hT : Tabs w) (hv : Prs F v l) (hu : Bs F u k) (ok : TreeOk 60 l) (hk : 1 ≤ k.length ∧ k.length ≤ 16) (hz : l.length = 0) :
    Calls Tryd.prog 27 #[v, u] w (GivesPrf w F (proveT l k)) := by
 obtain ⟨a, c, rfl, hc1, hc2⟩ := Sl.shape hv
 obtain ⟨ka, kc, rfl, hk1, hk2⟩ := hu.shape
 unfold maxLen at hc2 hk2
 have S := St.start hs
 have h60 := ok.len
 obtain ⟨i73, hi73, hz73, hs73, hb73⟩ := info_parts info_73
 go_enter Tryd.func27, Tryd.ntmps27
 refine wp_seq_k (fun K1 hK1 => region_wl ?_)
 refine stNew S (v := fun n => .pointer (some ⟨n, 0, none⟩)) rfl (ex_alloc (zero_52 _)) (fun n2 w3 S4 => ?_)
 simp only [pS, pN, pA, pC, pZ]
 have S4 : St w F w3 F [⟨n2, [(.bool false), (.slice none 0 0), (.slice none 0 0), (.slice none 0 0)], 52⟩] [] := S4
 refine do_ rfl (.int .i64 0) (ex_assign _) ?_
 simp only [pS, pN, pA, pC, pZ]
 refine wl_nil (hK1 _ _ ?_)
 refine wp_seq_k (fun K5 hK5 => ?_)
 refine wp_seq_k (fun K6 hK6 => region_wl ?_)
 refine do_ rfl (.slice a l.length c) (ex_move _) ?_
 simp only [pS, pN, pA, pC, pZ]
 refine do_ rfl (.slice ka k.length kc) (ex_move _) ?_
 simp only [pS, pN, pA, pC, pZ]
 refine stGives S4 rfl (ex_fn (vs := #[(.slice a l.length c), (.slice ka k.length kc)]) (map2 rfl rfl) rfl (ent_33 _ _)) (get_spec _ _ _ _ l k (S4).sat hv hu ok hk.1 hk.2) ?_
 intro v12 w7 F9 S8 le10 R11
 obtain ⟨_, rfl, a13, c14, rfl, r15⟩ := R11
 simp only [pS, pN, pA, pC, pZ]
 refine do_ rfl (.tuple #[(.agg #[(.bool (getT l k).isSome), (.slice a13 ((getT l k).getD []).length c14)]), (.int .i64 0)]) (ex_move _) ?_
 simp only [pS, pN, pA, pC, pZ]
 refine do_ rfl (.agg #[(.bool (getT l k).isSome), (.slice a13 ((getT l k).getD []).length c14)]) (ex_extract rfl rfl) ?_
 simp only [pS, pN, pA, pC, pZ]
 refine do_ rfl (.int .i64 0) (ex_extract rfl rfl) ?_
 simp only [pS, pN, pA, pC, pZ]
 refine stNew S8 (v := fun n => .pointer (some ⟨n, 0, none⟩)) rfl (ex_alloc (zero_65 _)) (fun n16 w17 S18 => ?_)
 simp only [pS, pN, pA, pC, pZ]
 have S18 : St w F w17 F9 [⟨n16, [(.bool false), (.slice none 0 0)], 65⟩, ⟨n2, [(.bool false), (.slice none 0 0), (.slice none 0 0), (.slice none 0 0)], 52⟩] [] := S18
 refine stStore (i := 0) (v := (.agg #[(.bool (getT l k).isSome), (.slice a13 ((getT l k).getD []).length c14)])) S18 rfl rfl rfl rfl (size_65) (allc2 rfl rfl) (Nat.le_of_ble_eq_true rfl) (fun w19 S20 => ?_)
 simp only [pS, pN, pA, pC, pZ]
 have S20 : St w F w19 F9 [⟨n16, [(.bool (getT l k).isSome), (.slice a13 ((getT l k).getD []).length c14)], 65⟩, ⟨n2, [(.bool false), (.slice none 0 0), (.slice none 0 0), (.slice none 0 0)], 52⟩] [] := S20
 refine do_ rfl (.int .i64 0) (ex_assign _) ?_
 simp only [pS, pN, pA, pC, pZ]
 refine wl_nil (hK6 _ _ ?_)
 refine wp_seq_k (fun K21 hK21 => region_wl ?_)
 refine do_ rfl (.int .i64 0) (ex_move _) ?_
 simp only [pS, pN, pA, pC, pZ]
 refine do_ rfl (.bool false) (ex_neq (m := (0 : Int)) (n := (0 : Int)) (b := false) rfl rfl (bne_eq_false_iff_eq.2 (by omega))) ?_
 simp only [pS, pN, pA, pC, pZ]
 refine wl_nil (hK21 _ _ ?_)
 refine wp_cond_false rfl ?_
 refine wp_skip ?_
 refine hK5 _ _ ?_
 refine wp_seq_k (fun K22 hK22 => ?_)
 refine wp_seq_k (fun K23 hK23 => region_wl ?_)
 refine do_ rfl (.slice a l.length c) (ex_move _) ?_
 simp only [pS, pN, pA, pC, pZ]
 refine do_ rfl (.int .i64 ((l.length : Nat) : Int)) (ex_len Tryd.underlying40 rfl) ?_
 simp only [pS, pN, pA, pC, pZ]
 refine do_ rfl (.bool true) (ex_eql (m := ((l.length : Nat) : Int)) (n := (0 : Int)) (b := true) rfl rfl (beq_iff_eq.2 (by omega))) ?_
 simp only [pS, pN, pA, pC, pZ]
 refine wl_nil (hK23 _ _ ?_)
 refine wp_cond_true rfl ?_
 refine wp_seq_k (fun K24 hK24 => region_wl ?_)
 refine do_ rfl (.agg #[(.bool true), (.slice none 0 0), (.slice none 0 0), (.slice none 0 0)]) (ex_build (ps := #[(0, (.bool true))]) (bmap1 rfl) (by kernel_rfl)) ?_
 simp only [pS, pN, pA, pC, pZ]
 refine stStore (i := 1) (v := (.agg #[(.bool true), (.slice none 0 0), (.slice none 0 0), (.slice none 0 0)])) S20 rfl rfl rfl rfl (size_52) (allc4 rfl rfl rfl rfl) (Nat.le_of_ble_eq_true rfl) (fun w25 S26 => ?_)
 simp only [pS, pN, pA, pC, pZ]
 have S26 : St w F w25 F9 [⟨n16, [(.bool (getT l k).isSome), (.slice a13 ((getT l k).getD []).length c14)], 65⟩, ⟨n2, [(.bool true), (.slice none 0 0), (.slice none 0 0), (.slice none 0 0)], 52⟩] [] := S26
 refine do_ rfl (.int .i64 0) (ex_assign _) ?_
 simp only [pS, pN, pA, pC, pZ]
 refine wl_nil (hK24 _ _ ?_)
 refine wp_ret ?_
 (try simp only [Exit.then, Exit.inBlock, ↓reduceIte, Nat.reduceEqDiff])
 refine bodyPost_ret (v := (.tuple #[(.agg #[(.bool true), (.slice none 0 0), (.slice none 0 0), (.slice none 0 0)]), (.int .i64 0)])) ?_ rfl ?_
 ·exact res_ct rfl ⟨_, rfl, loadN (cs := [(.bool true), (.slice none 0 0), (.slice none 0 0), (.slice none 0 0)]) Tryd.underlying52 rfl (size_52) (St.range S26 (i := 1) rfl 0 [(.bool true), (.slice none 0 0), (.slice none 0 0), (.slice none 0 0)] (sub_range 0 rfl))⟩ rfl
 ·have hn : l = [] := List.eq_nil_of_length_eq_zero hz
  have hp : proveT l k = ⟨true, [], ([], [])⟩ := by rw [hn]; rfl
  rw [hp]
  exact ⟨_, _, _, _, _, _, rfl, S26.gr, Own.nil _ _, Bs.nil _, Bs.nil _⟩
set_option maxHeartbeats 8000000 in
theorem proveOk_spec (F : Fz) (w : World) (v u : Value) (l : List Pr) (k : By) (hs : Sat w F) (hT : Tabs w) (hv : Prs F v l) (hu : Bs F u k) (ok : TreeOk 60 l) (hk : 1 ≤ k.length ∧ k.length ≤ 16) (hz : 1 ≤ l.length) :
    Calls Tryd.prog 27 #[v, u] w (GivesPrf w F (proveT l k)) := by
 obtain ⟨a, c, rfl, hc1, hc2⟩ := Sl.shape hv
 obtain ⟨ka, kc, rfl, hk1, hk2⟩ := hu.shape
 unfold maxLen at hc2 hk2
 have S := St.start hs
 have h60 := ok.len
 obtain ⟨i73, hi73, hz73, hs73, hb73⟩ := info_parts info_73
 go_enter Tryd.func27, Tryd.ntmps27
 refine wp_seq_k (fun K1 hK1 => region_wl ?_)
 refine stNew S (v := fun n => .pointer (some ⟨n, 0, none⟩)) rfl (ex_alloc (zero_52 _)) (fun n2 w3 S4 => ?_)
 simp only [pS, pN, pA, pC, pZ]
 have S4 : St w F w3 F [⟨n2, [(.bool false), (.slice none 0 0), (.slice none 0 0), (.slice none 0 0)], 52⟩] [] := S4
 refine do_ rfl (.int .i64 0) (ex_assign _) ?_
 simp only [pS, pN, pA, pC, pZ]
 refine wl_nil (hK1 _ _ ?_)
 refine wp_seq_k (fun K5 hK5 => ?_)
 refine wp_seq_k (fun K6 hK6 => region_wl ?_)
 refine do_ rfl (.slice a l.length c) (ex_move _) ?_
 simp only [pS, pN, pA, pC, pZ]
 refine do_ rfl (.slice ka k.length kc) (ex_move _) ?_
 simp only [pS, pN, pA, pC, pZ]
 refine stGives S4 rfl (ex_fn (vs := #[(.slice a l.length c), (.slice ka k.length kc)]) (map2 rfl rfl) rfl (ent_33 _ _)) (get_spec _ _ _ _ l k (S4).sat hv hu ok hk.1 hk.2) ?_
 intro v12 w7 F9 S8 le10 R11
 obtain ⟨_, rfl, a13, c14, rfl, r15⟩ := R11
 simp only [pS, pN, pA, pC, pZ]
 refine do_ rfl (.tuple #[(.agg #[(.bool (getT l k).isSome), (.slice a13 ((getT l k).getD []).length c14)]), (.int .i64 0)]) (ex_move _) ?_
 simp only [pS, pN, pA, pC, pZ]
 refine do_ rfl (.agg #[(.bool (getT l k).isSome), (.slice a13 ((getT l k).getD []).length c14)]) (ex_extract rfl rfl) ?_
 simp only [pS, pN, pA, pC, pZ]
 refine do_ rfl (.int .i64 0) (ex_extract rfl rfl) ?_
 simp only [pS, pN, pA, pC, pZ]
 refine stNew S8 (v := fun n => .pointer (some ⟨n, 0, none⟩)) rfl (ex_alloc (zero_65 _)) (fun n16 w17 S18 => ?_)
 simp only [pS, pN, pA, pC, pZ]
 have S18 : St w F w17 F9 [⟨n16, [(.bool false), (.slice none 0 0)], 65⟩, ⟨n2, [(.bool false), (.slice none 0 0), (.slice none 0 0), (.slice none 0 0)], 52⟩] [] := S18
 refine stStore (i := 0) (v := (.agg #[(.bool (getT l k).isSome), (.slice a13 ((getT l k).getD []).length c14)])) S18 rfl rfl rfl rfl (size_65) (allc2 rfl rfl) (Nat.le_of_ble_eq_true rfl) (fun w19 S20 => ?_)
 simp only [pS, pN, pA, pC, pZ]
 have S20 : St w F w19 F9 [⟨n16, [(.bool (getT l k).isSome), (.slice a13 ((getT l k).getD []).length c14)], 65⟩, ⟨n2, [(.bool false), (.slice none 0 0), (.slice none 0 0), (.slice none 0 0)], 52⟩] [] := S20
 refine do_ rfl (.int .i64 0) (ex_assign _) ?_
 simp only [pS, pN, pA, pC, pZ]
 refine wl_nil (hK6 _ _ ?_)
 refine wp_seq_k (fun K21 hK21 => region_wl ?_)
 refine do_ rfl (.int .i64 0) (ex_move _) ?_
 simp only [pS, pN, pA, pC, pZ]
 refine do_ rfl (.bool false) (ex_neq (m := (0 : Int)) (n := (0 : Int)) (b := false) rfl rfl (bne_eq_false_iff_eq.2 (by omega))) ?_
 simp only [pS, pN, pA, pC, pZ]
 refine wl_nil (hK21 _ _ ?_)
 refine wp_cond_false rfl ?_
 refine wp_skip ?_
 refine hK5 _ _ ?_
 refine wp_seq_k (fun K22 hK22 => ?_)
 refine wp_seq_k (fun K23 hK23 => region_wl ?_)
 refine do_ rfl (.slice a l.length c) (ex_move _) ?_
 simp only [pS, pN, pA, pC, pZ]
 refine do_ rfl (.int .i64 ((l.length : Nat) : Int)) (ex_len Tryd.underlying40 rfl) ?_
 simp only [pS, pN, pA, pC, pZ]
 refine do_ rfl (.bool false) (ex_eql (m := ((l.length : Nat) : Int)) (n := (0 : Int)) (b := false) rfl rfl (beq_eq_false_iff_ne.2 (by omega))) ?_
 simp only [pS, pN, pA, pC, pZ]
 refine wl_nil (hK23 _ _ ?_)
 refine wp_cond_false rfl ?_
 refine wp_skip ?_
 refine hK22 _ _ ?_
 refine wp_seq_k (fun K24 hK24 => region_wl ?_)
 refine stNew S20 (v := fun n => .pointer (some ⟨n, 0, none⟩)) rfl (ex_alloc (zero_52 _)) (fun n25 w26 S27 => ?_)
 simp only [pS, pN, pA, pC, pZ]
 have S27 : St w F w26 F9 [⟨n25, [(.bool false), (.slice none 0 0), (.slice none 0 0), (.slice none 0 0)], 52⟩, ⟨n16, [(.bool (getT l k).isSome), (.slice a13 ((getT l k).getD []).length c14)], 65⟩, ⟨n2, [(.bool false), (.slice none 0 0), (.slice none 0 0), (.slice none 0 0)], 52⟩] [] := S27
 refine wl_nil (hK24 _ _ ?_)
 refine wp_seq_k (fun K28 hK28 => ?_)
 refine wp_block ?_
 have S29 := St.addNil S27 3 StpC StpC.mono 73 w.heap.size
 refine wp_loop_g (fun mm aa w32 => ∃ (n : Nat) (cur : List Pr) (xa : Option Addr) (xc : Nat) (sv : Value) (ss : List Stp) (F30 : Fz) (u31 : Nat → Value), mm = cur.length ∧ u31 = slots aa ∧ aa = ⟨#[(.slice xa cur.length xc), (.slice ka k.length kc), undef, undef, (.pointer (some ⟨n2, 0, none⟩)), (.int .i64 0), (.pointer (some ⟨n16, 0, none⟩)), (.int .i64 0), (.pointer (some ⟨n25, 0, none⟩)), (u31 9), (u31 10), (u31 11), (u31 12), (.tuple #[(.agg #[(.bool (getT l k).isSome), (.slice a13 ((getT l k).getD []).length c14)]), (.int .i64 0)]), (.slice a l.length c), (.slice ka k.length kc), (.tuple #[(.agg #[(.bool (getT l k).isSome), (.slice a13 ((getT l k).getD []).length c14)]), (.int .i64 0)]), (.agg #[(.bool (getT l k).isSome), (.slice a13 ((getT l k).getD []).length c14)]), (.int .i64 0), (.int .i64 0), (.bool false), undef, undef, (.slice a l.length c), (.int .i64 ((l.length : Nat) : Int)), (.bool false), undef, (u31 27), (u31 28), (u31 29), (u31 30), (u31 31), (u31 32), (u31 33), (u31 34), (u31 35), (u31 36), (u31 37), (u31 38), (u31 39), (u31 40), (u31 41), (u31 42), (u31 43), (u31 44), (u31 45), (u31 46), (u31 47), (u31 48), (u31 49), (u31 50), (u31 51), (u31 52), (u31 53), (u31 54), (u31 55), (u31 56), (u31 57), (u31 58), (u31 59), (u31 60), (u31 61), undef, undef, undef, undef, undef, undef], []⟩ ∧ St w F w32 F30 [⟨n25, [(.bool false), sv, (.slice none 0 0), (.slice none 0 0)], 52⟩, ⟨n16, [(.bool (getT l k).isSome), (.slice a13 ((getT l k).getD []).length c14)], 65⟩, ⟨n2, [(.bool false), (.slice none 0 0), (.slice none 0 0), (.slice none 0 0)], 52⟩] [ownP 3 StpC StpC.mono 73 w.heap.size sv ss] ∧ Le F9 F30 ∧ (Prs F30 (.slice xa cur.length xc) cur) ∧ (TreeOk 60 cur) ∧ (1 ≤ cur.length) ∧ (cur.length ≤ n + 1) ∧ ((ss ++ (stepsN n cur k).1, (stepsN n cur k).2) = stepsN l.length l k) ∧ (ss.length + cur.length ≤ l.length)) _ ⟨l.length, l, a, c, (.slice none 0 0), [], F9, _, rfl, rfl, rfl, S29, Le.refl _, (hv.mono le10), ok, (by omega), (by omega), rfl, (by simp)⟩ ?_
 rintro m33 a34 w35 ⟨n, cur, xa, xc, sv, ss, F30, u31, rfl, -, rfl, S36, le37, hcur, okc, hc1_, hfu, hst, hsl⟩ K38 hK38
 refine wp_seq_k (fun K39 hK39 => ?_)
 refine wp_seq_k (fun K40 hK40 => region_wl ?_)
 refine do_ rfl (.slice xa cur.length xc) (ex_move _) ?_
 simp only [pS, pN, pA, pC, pZ]
 refine do_ rfl (.int .i64 ((cur.length : Nat) : Int)) (ex_len Tryd.underlying40 rfl) ?_
 simp only [pS, pN, pA, pC, pZ]
 by_cases hc29 : 1 < cur.length
 ·refine do_ rfl (.bool true) (ex_gtr (m := ((cur.length : Nat) : Int)) (n := (1 : Int)) (b := true) rfl rfl (decide_eq_true (by omega))) ?_
  simp only [pS, pN, pA, pC, pZ]
  refine wl_nil (hK40 _ _ ?_)
  refine wp_cond_true rfl ?_
  refine wp_skip ?_
  refine hK39 _ _ ?_
  refine wp_block ?_
  refine wp_seq_k (fun K41 hK41 => ?_)
  have hn2 := leftN_spec okc.keys (show 2 ≤ cur.length by omega)
  have hb145 := (bitT_spec okc.keys (show 2 ≤ cur.length by omega)).1
  have hlt1 : (cur.take (leftN (bitT cur) cur)).length = (leftN (bitT cur) cur) := by rw [List.length_take]; omega
  have hlt2 : (cur.drop (leftN (bitT cur) cur)).length = cur.length - (leftN (bitT cur) cur) := List.length_drop
  obtain ⟨n', rfl⟩ : ∃ m, n = m + 1 := ⟨n - 1, by omega⟩
  have h60c := okc.len
  refine region_wl ?_
  refine do_ rfl (.slice xa cur.length xc) (ex_move _) ?_
  simp only [pS, pN, pA, pC, pZ]
  have hcl : Prs F30 (.slice xa (cur.take (leftN (bitT cur) cur)).length xc) (cur.take (leftN (bitT cur) cur)) := by rw [hlt1]; exact Sl.takeN hcur (by omega)
  have hcr : Prs F30 (.slice (if xc = (leftN (bitT cur) cur) then xa else xa.map (·.add ((leftN (bitT cur) cur) * 2))) (cur.drop (leftN (bitT cur) cur)).length (xc - (leftN (bitT cur) cur))) (cur.drop (leftN (bitT cur) cur)) := by rw [hlt2]; exact Sl.dropD (by decide) hcur (by omega)
  refine stTells (v := (.tuple #[(.int .i64 (((bitT cur) : Nat) : Int)), (.slice xa (cur.take (leftN (bitT cur) cur)).length xc), (.slice (if xc = (leftN (bitT cur) cur) then xa else xa.map (·.add ((leftN (bitT cur) cur) * 2))) (cur.drop (leftN (bitT cur) cur)).length (xc - (leftN (bitT cur) cur)))])) S36 rfl (ex_fn (vs := #[(.slice xa cur.length xc)]) (map1 rfl) rfl (ent_42 _ _)) (partedP2_spec _ _ _ _ cur (S36).sat hcur okc.keys (by omega) (by omega)) (fun w42 S43 => ?_)
  simp only [pS, pN, pA, pC, pZ]
  refine do_ rfl (.tuple #[(.int .i64 (((bitT cur) : Nat) : Int)), (.slice xa (cur.take (leftN (bitT cur) cur)).length xc), (.slice (if xc = (leftN (bitT cur) cur) then xa else xa.map (·.add ((leftN (bitT cur) cur) * 2))) (cur.drop (leftN (bitT cur) cur)).length (xc - (leftN (bitT cur) cur)))]) (ex_move _) ?_
  simp only [pS, pN, pA, pC, pZ]
  refine do_ rfl (.int .i64 (((bitT cur) : Nat) : Int)) (ex_extract rfl rfl) ?_
  simp only [pS, pN, pA, pC, pZ]
  refine do_ rfl (.slice xa (cur.take (leftN (bitT cur) cur)).length xc) (ex_extract rfl rfl) ?_
  simp only [pS, pN, pA, pC, pZ]
  refine do_ rfl (.slice (if xc = (leftN (bitT cur) cur) then xa else xa.map (·.add ((leftN (bitT cur) cur) * 2))) (cur.drop (leftN (bitT cur) cur)).length (xc - (leftN (bitT cur) cur))) (ex_extract rfl rfl) ?_
  simp only [pS, pN, pA, pC, pZ]
  refine do_ rfl (.int .i64 (((bitT cur) : Nat) : Int)) (ex_assign _) ?_
  simp only [pS, pN, pA, pC, pZ]
  refine do_ rfl (.slice xa (cur.take (leftN (bitT cur) cur)).length xc) (ex_assign _) ?_
  simp only [pS, pN, pA, pC, pZ]
  refine do_ rfl (.slice (if xc = (leftN (bitT cur) cur) then xa else xa.map (·.add ((leftN (bitT cur) cur) * 2))) (cur.drop (leftN (bitT cur) cur)).length (xc - (leftN (bitT cur) cur))) (ex_assign _) ?_
  simp only [pS, pN, pA, pC, pZ]
  refine wl_nil (hK41 _ _ ?_)
  refine wp_seq_k (fun K44 hK44 => region_wl ?_)
  refine do_ rfl (.int .i64 (((bitT cur) : Nat) : Int)) (ex_move _) ?_
  simp only [pS, pN, pA, pC, pZ]
  refine do_ rfl (.agg #[(.int .i64 (((bitT cur) : Nat) : Int)), (.bool false), (.slice none 0 0)]) (ex_build (ps := #[(0, (.int .i64 (((bitT cur) : Nat) : Int)))]) (bmap1 rfl) (by kernel_rfl)) ?_
  simp only [pS, pN, pA, pC, pZ]
  refine stNew S43 (v := fun n => .pointer (some ⟨n, 0, none⟩)) rfl (ex_alloc (zero_73 _)) (fun n45 w46 S47 => ?_)
  simp only [pS, pN, pA, pC, pZ]
  have S47 : St w F w46 F30 [⟨n45, [(.int .i64 0), (.bool false), (.slice none 0 0)], 73⟩, ⟨n25, [(.bool false), sv, (.slice none 0 0), (.slice none 0 0)], 52⟩, ⟨n16, [(.bool (getT l k).isSome), (.slice a13 ((getT l k).getD []).length c14)], 65⟩, ⟨n2, [(.bool false), (.slice none 0 0), (.slice none 0 0), (.slice none 0 0)], 52⟩] [ownP 3 StpC StpC.mono 73 w.heap.size sv ss] := S47
  refine stStore (i := 0) (v := (.agg #[(.int .i64 (((bitT cur) : Nat) : Int)), (.bool false), (.slice none 0 0)])) S47 rfl rfl rfl rfl (size_73) (allc3 rfl rfl rfl) (Nat.le_of_ble_eq_true rfl) (fun w48 S49 => ?_)
  simp only [pS, pN, pA, pC, pZ]
  have S49 : St w F w48 F30 [⟨n45, [(.int .i64 (((bitT cur) : Nat) : Int)), (.bool false), (.slice none 0 0)], 73⟩, ⟨n25, [(.bool false), sv, (.slice none 0 0), (.slice none 0 0)], 52⟩, ⟨n16, [(.bool (getT l k).isSome), (.slice a13 ((getT l k).getD []).length c14)], 65⟩, ⟨n2, [(.bool false), (.slice none 0 0), (.slice none 0 0), (.slice none 0 0)], 52⟩] [ownP 3 StpC StpC.mono 73 w.heap.size sv ss] := S49
  refine wl_nil (hK44 _ _ ?_)
  refine wp_seq_k (fun K50 hK50 => region_wl ?_)
  refine do_ rfl (.slice ka k.length kc) (ex_move _) ?_
  simp only [pS, pN, pA, pC, pZ]
  refine do_ rfl (.int .i64 (((bitT cur) : Nat) : Int)) (ex_move _) ?_
  simp only [pS, pN, pA, pC, pZ]
  refine stTells (v := (.tuple #[(.bool (bitL k (bitT cur))), (.int .i64 0)])) S49 rfl (ex_fn (vs := #[(.slice ka k.length kc), (.int .i64 (((bitT cur) : Nat) : Int))]) (map2 rfl rfl) rfl (ent_25 _ _)) (tells_same (bitE_spec _ _ _ k _ (S49).sat (hu.mono (le10.trans le37)) hk.1 hk.2 (by omega) (by omega))) (fun w51 S52 => ?_)
  simp only [pS, pN, pA, pC, pZ]
  refine do_ rfl (.tuple #[(.bool (bitL k (bitT cur))), (.int .i64 0)]) (ex_move _) ?_
  simp only [pS, pN, pA, pC, pZ]
  refine do_ rfl (.bool (bitL k (bitT cur))) (ex_extract rfl rfl) ?_
  simp only [pS, pN, pA, pC, pZ]
  refine do_ rfl (.int .i64 0) (ex_extract rfl rfl) ?_
  simp only [pS, pN, pA, pC, pZ]
  refine do_ rfl (.pointer (some ⟨n45, 1, none⟩)) (ex_field (q := ⟨n45, 1, none⟩) rfl (fa_73_1 _ _)) ?_
  simp only [pS, pN, pA, pC, pZ]
  refine stStore (i := 0) (v := (.bool (bitL k (bitT cur)))) S52 rfl rfl rfl rfl (size_4) (allc1 rfl) (Nat.le_of_ble_eq_true rfl) (fun w53 S54 => ?_)
  simp only [pS, pN, pA, pC, pZ]
  have S54 : St w F w53 F30 [⟨n45, [(.int .i64 (((bitT cur) : Nat) : Int)), (.bool (bitL k (bitT cur))), (.slice none 0 0)], 73⟩, ⟨n25, [(.bool false), sv, (.slice none 0 0), (.slice none 0 0)], 52⟩, ⟨n16, [(.bool (getT l k).isSome), (.slice a13 ((getT l k).getD []).length c14)], 65⟩, ⟨n2, [(.bool false), (.slice none 0 0), (.slice none 0 0), (.slice none 0 0)], 52⟩] [ownP 3 StpC StpC.mono 73 w.heap.size sv ss] := S54
  refine wl_nil (hK50 _ _ ?_)
  refine wp_seq_k (fun K55 hK55 => ?_)
  refine wp_seq_k (fun K56 hK56 => region_wl ?_)
  refine do_ rfl (.pointer (some ⟨n45, 1, none⟩)) (ex_field (q := ⟨n45, 1, none⟩) rfl (fa_73_1 _ _)) ?_
  simp only [pS, pN, pA, pC, pZ]
  refine do_ rfl (.bool (bitL k (bitT cur))) (ex_load rfl (load1 (nagg_4 _) (St.cell S54 (i := 0) rfl rfl))) ?_
  simp only [pS, pN, pA, pC, pZ]
  refine wl_nil (hK56 _ _ ?_)
  refine wp_cond_split rfl (fun hc57 => ?_) (fun hc57 => ?_)
  ·have hb : bitL k (bitT cur) = true := hc57
   refine region_wl ?_
   refine do_ rfl (.slice (if xc = (leftN (bitT cur) cur) then xa else xa.map (·.add ((leftN (bitT cur) cur) * 2))) (cur.drop (leftN (bitT cur) cur)).length (xc - (leftN (bitT cur) cur))) (ex_move _) ?_
   simp only [pS, pN, pA, pC, pZ]
   refine do_ rfl (.slice xa (cur.take (leftN (bitT cur) cur)).length xc) (ex_move _) ?_
   simp only [pS, pN, pA, pC, pZ]
   refine do_ rfl (.slice (if xc = (leftN (bitT cur) cur) then xa else xa.map (·.add ((leftN (bitT cur) cur) * 2))) (cur.drop (leftN (bitT cur) cur)).length (xc - (leftN (bitT cur) cur))) (ex_assign _) ?_
   simp only [pS, pN, pA, pC, pZ]
   refine do_ rfl (.slice xa (cur.take (leftN (bitT cur) cur)).length xc) (ex_assign _) ?_
   simp only [pS, pN, pA, pC, pZ]
   refine wl_nil (hK55 _ _ ?_)
   refine wp_seq_k (fun K58 hK58 => region_wl ?_)
   refine do_ rfl (.slice xa (cur.take (leftN (bitT cur) cur)).length xc) (ex_move _) ?_
   simp only [pS, pN, pA, pC, pZ]
   refine stGives S54 rfl (ex_fn (vs := #[(.slice xa (cur.take (leftN (bitT cur) cur)).length xc)]) (map1 rfl) rfl (ent_22 _ _)) (Root_spec _ _ _ (cur.take (leftN (bitT cur) cur)) (S54).sat (hT.at S54.gr.below) hcl (sub_ok okc (List.take_sublist _ _))) ?_
   intro v64 w59 F61 S60 le62 R63
   obtain ⟨x65, rfl, r66⟩ := R63
   obtain ⟨xa67, xc68, rfl, _⟩ := r66.shape
   have r66 : Bs _ (.slice xa67 (rootT (cur.take (leftN (bitT cur) cur))).length xc68) (rootT (cur.take (leftN (bitT cur) cur))) := r66
   simp only [pS, pN, pA, pC, pZ]
   refine do_ rfl (.tuple #[(.slice xa67 (rootT (cur.take (leftN (bitT cur) cur))).length xc68), (.int .i64 0)]) (ex_move _) ?_
   simp only [pS, pN, pA, pC, pZ]
   refine do_ rfl (.slice xa67 (rootT (cur.take (leftN (bitT cur) cur))).length xc68) (ex_extract rfl rfl) ?_
   simp only [pS, pN, pA, pC, pZ]
   refine do_ rfl (.int .i64 0) (ex_extract rfl rfl) ?_
   simp only [pS, pN, pA, pC, pZ]
   refine do_ rfl (.pointer (some ⟨n45, 2, none⟩)) (ex_field (q := ⟨n45, 2, none⟩) rfl (fa_73_2 _ _)) ?_
   simp only [pS, pN, pA, pC, pZ]
   refine stStore (i := 0) (v := (.slice xa67 (rootT (cur.take (leftN (bitT cur) cur))).length xc68)) S60 rfl rfl rfl rfl (size_22) (allc1 rfl) (Nat.le_of_ble_eq_true rfl) (fun w69 S70 => ?_)
   simp only [pS, pN, pA, pC, pZ]
   have S70 : St w F w69 F61 [⟨n45, [(.int .i64 (((bitT cur) : Nat) : Int)), (.bool (bitL k (bitT cur))), (.slice xa67 (rootT (cur.take (leftN (bitT cur) cur))).length xc68)], 73⟩, ⟨n25, [(.bool false), sv, (.slice none 0 0), (.slice none 0 0)], 52⟩, ⟨n16, [(.bool (getT l k).isSome), (.slice a13 ((getT l k).getD []).length c14)], 65⟩, ⟨n2, [(.bool false), (.slice none 0 0), (.slice none 0 0), (.slice none 0 0)], 52⟩] [ownP 3 StpC StpC.mono 73 w.heap.size sv ss] := S70
   refine wl_nil (hK58 _ _ ?_)
   refine wp_seq_k (fun K71 hK71 => region_wl ?_)
   refine do_ rfl (.slice (if xc = (leftN (bitT cur) cur) then xa else xa.map (·.add ((leftN (bitT cur) cur) * 2))) (cur.drop (leftN (bitT cur) cur)).length (xc - (leftN (bitT cur) cur))) (ex_move _) ?_
   simp only [pS, pN, pA, pC, pZ]
   refine do_ rfl (.slice (if xc = (leftN (bitT cur) cur) then xa else xa.map (·.add ((leftN (bitT cur) cur) * 2))) (cur.drop (leftN (bitT cur) cur)).length (xc - (leftN (bitT cur) cur))) (ex_assign _) ?_
   simp only [pS, pN, pA, pC, pZ]
   refine wl_nil (hK71 _ _ ?_)
   refine region_wl ?_
   refine do_ rfl (.pointer (some ⟨n25, 1, none⟩)) (ex_field (q := ⟨n25, 1, none⟩) rfl (fa_52_1 _ _)) ?_
   simp only [pS, pN, pA, pC, pZ]
   refine do_ rfl sv (ex_load rfl (load1 (nagg_50 _) (St.cell S70 (i := 1) rfl rfl))) ?_
   simp only [pS, pN, pA, pC, pZ]
   refine do_ rfl (.agg #[(.int .i64 (((bitT cur) : Nat) : Int)), (.bool (bitL k (bitT cur))), (.slice xa67 (rootT (cur.take (leftN (bitT cur) cur))).length xc68)]) (ex_load rfl (loadN (cs := [(.int .i64 (((bitT cur) : Nat) : Int)), (.bool (bitL k (bitT cur))), (.slice xa67 (rootT (cur.take (leftN (bitT cur) cur))).length xc68)]) Tryd.underlying73 rfl (size_73) (St.range S70 (i := 0) rfl 0 [(.int .i64 (((bitT cur) : Nat) : Int)), (.bool (bitL k (bitT cur))), (.slice xa67 (rootT (cur.take (leftN (bitT cur) cur))).length xc68)] (sub_range 0 rfl)))) ?_
   simp only [pS, pN, pA, pC, pZ]
   refine stNew S70 (v := fun n => .slice (some ⟨n, 0, none⟩) 1 1) rfl (ex_lit (ps := #[(0, (.agg #[(.int .i64 (((bitT cur) : Nat) : Int)), (.bool (bitL k (bitT cur))), (.slice xa67 (rootT (cur.take (leftN (bitT cur) cur))).length xc68)]))]) (cells := #[(.int .i64 (((bitT cur) : Nat) : Int)), (.bool (bitL k (bitT cur))), (.slice xa67 (rootT (cur.take (leftN (bitT cur) cur))).length xc68)]) (E := 73) (bmap1 rfl) (fun w => by kernel_rfl)) (fun n72 w73 S74 => ?_)
   simp only [pS, pN, pA, pC, pZ]
   have S74 : St w F w73 F61 [⟨n72, [(.int .i64 (((bitT cur) : Nat) : Int)), (.bool (bitL k (bitT cur))), (.slice xa67 (rootT (cur.take (leftN (bitT cur) cur))).length xc68)], 73⟩, ⟨n45, [(.int .i64 (((bitT cur) : Nat) : Int)), (.bool (bitL k (bitT cur))), (.slice xa67 (rootT (cur.take (leftN (bitT cur) cur))).length xc68)], 73⟩, ⟨n25, [(.bool false), sv, (.slice none 0 0), (.slice none 0 0)], 52⟩, ⟨n16, [(.bool (getT l k).isSome), (.slice a13 ((getT l k).getD []).length c14)], 65⟩, ⟨n2, [(.bool false), (.slice none 0 0), (.slice none 0 0), (.slice none 0 0)], 52⟩] [ownP 3 StpC StpC.mono 73 w.heap.size sv ss] := S74
   refine stPush (i := 0) (r := 0) (p := (⟨bitT cur, bitL k (bitT cur), rootT (sideT (bitT cur) (!true) cur)⟩ : Stp)) (cs := [(.int .i64 (((bitT cur) : Nat) : Int)), (.bool (bitL k (bitT cur))), (.slice xa67 (rootT (cur.take (leftN (bitT cur) cur))).length xc68)]) S74 rfl i73 (.agg #[(.int .i64 0), (.bool false), (.slice none 0 0)]) 40 Tryd.underlying50 hi73 hz73 hs73 hb73 rfl (by decide) rfl rfl rfl rfl rfl (StpC.oneCell (p := (⟨bitT cur, bitL k (bitT cur), rootT (sideT (bitT cur) (!true) cur)⟩ : Stp)) ⟨_, _, _, rfl, rfl, rfl, r66⟩) (⟨_, _, _, rfl, rfl, rfl, r66⟩) (Nat.le_refl _) S74.gr.below.size (by unfold maxLen; omega) (by omega) ?_
   intro v75 w76 S77 hn78
   simp only [pS, pN, pA, pC, pZ]
   have S77 := St.drop S77 (L' := [⟨n45, [(.int .i64 (((bitT cur) : Nat) : Int)), (.bool (bitL k (bitT cur))), (.slice xa67 (rootT (cur.take (leftN (bitT cur) cur))).length xc68)], 73⟩, ⟨n25, [(.bool false), sv, (.slice none 0 0), (.slice none 0 0)], 52⟩, ⟨n16, [(.bool (getT l k).isSome), (.slice a13 ((getT l k).getD []).length c14)], 65⟩, ⟨n2, [(.bool false), (.slice none 0 0), (.slice none 0 0), (.slice none 0 0)], 52⟩]) (.cons _ (List.Sublist.refl _))
   have S77 : St w F w76 F61 [⟨n45, [(.int .i64 (((bitT cur) : Nat) : Int)), (.bool (bitL k (bitT cur))), (.slice xa67 (rootT (cur.take (leftN (bitT cur) cur))).length xc68)], 73⟩, ⟨n25, [(.bool false), sv, (.slice none 0 0), (.slice none 0 0)], 52⟩, ⟨n16, [(.bool (getT l k).isSome), (.slice a13 ((getT l k).getD []).length c14)], 65⟩, ⟨n2, [(.bool false), (.slice none 0 0), (.slice none 0 0), (.slice none 0 0)], 52⟩] [ownP 3 StpC StpC.mono 73 w.heap.size v75 (ss ++ [(⟨bitT cur, bitL k (bitT cur), rootT (sideT (bitT cur) (!true) cur)⟩ : Stp)])] := S77
   obtain ⟨a79, cap80, rfl, h81, h82⟩ := (S77.own (i := 0) rfl).shape
   unfold maxLen at h82
   refine do_ rfl (.pointer (some ⟨n25, 1, none⟩)) (ex_field (q := ⟨n25, 1, none⟩) rfl (fa_52_1 _ _)) ?_
   simp only [pS, pN, pA, pC, pZ]
   refine stStore (i := 1) (v := (.slice a79 (ss ++ [(⟨bitT cur, bitL k (bitT cur), rootT (sideT (bitT cur) (!true) cur)⟩ : Stp)]).length cap80)) S77 rfl rfl rfl rfl (size_50) (allc1 rfl) (Nat.le_of_ble_eq_true rfl) (fun w83 S84 => ?_)
   simp only [pS, pN, pA, pC, pZ]
   have S84 : St w F w83 F61 [⟨n45, [(.int .i64 (((bitT cur) : Nat) : Int)), (.bool (bitL k (bitT cur))), (.slice xa67 (rootT (cur.take (leftN (bitT cur) cur))).length xc68)], 73⟩, ⟨n25, [(.bool false), (.slice a79 (ss ++ [(⟨bitT cur, bitL k (bitT cur), rootT (sideT (bitT cur) (!true) cur)⟩ : Stp)]).length cap80), (.slice none 0 0), (.slice none 0 0)], 52⟩, ⟨n16, [(.bool (getT l k).isSome), (.slice a13 ((getT l k).getD []).length c14)], 65⟩, ⟨n2, [(.bool false), (.slice none 0 0), (.slice none 0 0), (.slice none 0 0)], 52⟩] [ownP 3 StpC StpC.mono 73 w.heap.size (.slice a79 (ss ++ [(⟨bitT cur, bitL k (bitT cur), rootT (sideT (bitT cur) (!true) cur)⟩ : Stp)]).length cap80) (ss ++ [(⟨bitT cur, bitL k (bitT cur), rootT (sideT (bitT cur) (!true) cur)⟩ : Stp)])] := S84
   refine wl_nil ?_
   have S84 := St.drop S84 (L' := [⟨n25, [(.bool false), (.slice a79 (ss ++ [(⟨bitT cur, bitL k (bitT cur), rootT (sideT (bitT cur) (!true) cur)⟩ : Stp)]).length cap80), (.slice none 0 0), (.slice none 0 0)], 52⟩, ⟨n16, [(.bool (getT l k).isSome), (.slice a13 ((getT l k).getD []).length c14)], 65⟩, ⟨n2, [(.bool false), (.slice none 0 0), (.slice none 0 0), (.slice none 0 0)], 52⟩]) (.cons _ (List.Sublist.refl _))
   exact hK38 _ _ _ (by omega) ⟨n', (cur.drop (leftN (bitT cur) cur)), (if xc = (leftN (bitT cur) cur) then xa else xa.map (·.add ((leftN (bitT cur) cur) * 2))), (xc - (leftN (bitT cur) cur)), (.slice a79 (ss ++ [(⟨bitT cur, bitL k (bitT cur), rootT (sideT (bitT cur) (!true) cur)⟩ : Stp)]).length cap80), (ss ++ [(⟨bitT cur, bitL k (bitT cur), rootT (sideT (bitT cur) (!true) cur)⟩ : Stp)]), F61, _, rfl, rfl, rfl, S84, (le37.trans le62), (hcr.mono le62), (sub_ok okc (List.drop_sublist _ _)), (by rw [List.length_drop]; omega), (by rw [List.length_drop]; omega), (steps_step hst (by omega) true hb), (by rw [List.length_append, List.length_drop]; simp only [List.length_cons, List.length_nil]; omega)⟩
  ·refine wp_skip ?_
   refine hK55 _ _ ?_
   refine wp_seq_k (fun K85 hK85 => ?_)
   have hb : bitL k (bitT cur) = false := hc57
   refine region_wl ?_
   refine do_ rfl (.slice (if xc = (leftN (bitT cur) cur) then xa else xa.map (·.add ((leftN (bitT cur) cur) * 2))) (cur.drop (leftN (bitT cur) cur)).length (xc - (leftN (bitT cur) cur))) (ex_move _) ?_
   simp only [pS, pN, pA, pC, pZ]
   refine stGives S54 rfl (ex_fn (vs := #[(.slice (if xc = (leftN (bitT cur) cur) then xa else xa.map (·.add ((leftN (bitT cur) cur) * 2))) (cur.drop (leftN (bitT cur) cur)).length (xc - (leftN (bitT cur) cur)))]) (map1 rfl) rfl (ent_22 _ _)) (Root_spec _ _ _ (cur.drop (leftN (bitT cur) cur)) (S54).sat (hT.at S54.gr.below) hcr (sub_ok okc (List.drop_sublist _ _))) ?_
   intro v91 w86 F88 S87 le89 R90
   obtain ⟨x92, rfl, r93⟩ := R90
   obtain ⟨xa94, xc95, rfl, _⟩ := r93.shape
   have r93 : Bs _ (.slice xa94 (rootT (cur.drop (leftN (bitT cur) cur))).length xc95) (rootT (cur.drop (leftN (bitT cur) cur))) := r93
   simp only [pS, pN, pA, pC, pZ]
   refine do_ rfl (.tuple #[(.slice xa94 (rootT (cur.drop (leftN (bitT cur) cur))).length xc95), (.int .i64 0)]) (ex_move _) ?_
   simp only [pS, pN, pA, pC, pZ]
   refine do_ rfl (.slice xa94 (rootT (cur.drop (leftN (bitT cur) cur))).length xc95) (ex_extract rfl rfl) ?_
   simp only [pS, pN, pA, pC, pZ]
   refine do_ rfl (.int .i64 0) (ex_extract rfl rfl) ?_
   simp only [pS, pN, pA, pC, pZ]
   refine do_ rfl (.pointer (some ⟨n45, 2, none⟩)) (ex_field (q := ⟨n45, 2, none⟩) rfl (fa_73_2 _ _)) ?_
   simp only [pS, pN, pA, pC, pZ]
   refine stStore (i := 0) (v := (.slice xa94 (rootT (cur.drop (leftN (bitT cur) cur))).length xc95)) S87 rfl rfl rfl rfl (size_22) (allc1 rfl) (Nat.le_of_ble_eq_true rfl) (fun w96 S97 => ?_)
   simp only [pS, pN, pA, pC, pZ]
   have S97 : St w F w96 F88 [⟨n45, [(.int .i64 (((bitT cur) : Nat) : Int)), (.bool (bitL k (bitT cur))), (.slice xa94 (rootT (cur.drop (leftN (bitT cur) cur))).length xc95)], 73⟩, ⟨n25, [(.bool false), sv, (.slice none 0 0), (.slice none 0 0)], 52⟩, ⟨n16, [(.bool (getT l k).isSome), (.slice a13 ((getT l k).getD []).length c14)], 65⟩, ⟨n2, [(.bool false), (.slice none 0 0), (.slice none 0 0), (.slice none 0 0)], 52⟩] [ownP 3 StpC StpC.mono 73 w.heap.size sv ss] := S97
   refine wl_nil (hK85 _ _ ?_)
   refine wp_seq_k (fun K98 hK98 => region_wl ?_)
   refine do_ rfl (.slice xa (cur.take (leftN (bitT cur) cur)).length xc) (ex_move _) ?_
   simp only [pS, pN, pA, pC, pZ]
   refine do_ rfl (.slice xa (cur.take (leftN (bitT cur) cur)).length xc) (ex_assign _) ?_
   simp only [pS, pN, pA, pC, pZ]
   refine wl_nil (hK98 _ _ ?_)
   refine region_wl ?_
   refine do_ rfl (.pointer (some ⟨n25, 1, none⟩)) (ex_field (q := ⟨n25, 1, none⟩) rfl (fa_52_1 _ _)) ?_
   simp only [pS, pN, pA, pC, pZ]
   refine do_ rfl sv (ex_load rfl (load1 (nagg_50 _) (St.cell S97 (i := 1) rfl rfl))) ?_
   simp only [pS, pN, pA, pC, pZ]
   refine do_ rfl (.agg #[(.int .i64 (((bitT cur) : Nat) : Int)), (.bool (bitL k (bitT cur))), (.slice xa94 (rootT (cur.drop (leftN (bitT cur) cur))).length xc95)]) (ex_load rfl (loadN (cs := [(.int .i64 (((bitT cur) : Nat) : Int)), (.bool (bitL k (bitT cur))), (.slice xa94 (rootT (cur.drop (leftN (bitT cur) cur))).length xc95)]) Tryd.underlying73 rfl (size_73) (St.range S97 (i := 0) rfl 0 [(.int .i64 (((bitT cur) : Nat) : Int)), (.bool (bitL k (bitT cur))), (.slice xa94 (rootT (cur.drop (leftN (bitT cur) cur))).length xc95)] (sub_range 0 rfl)))) ?_
   simp only [pS, pN, pA, pC, pZ]
   refine stNew S97 (v := fun n => .slice (some ⟨n, 0, none⟩) 1 1) rfl (ex_lit (ps := #[(0, (.agg #[(.int .i64 (((bitT cur) : Nat) : Int)), (.bool (bitL k (bitT cur))), (.slice xa94 (rootT (cur.drop (leftN (bitT cur) cur))).length xc95)]))]) (cells := #[(.int .i64 (((bitT cur) : Nat) : Int)), (.bool (bitL k (bitT cur))), (.slice xa94 (rootT (cur.drop (leftN (bitT cur) cur))).length xc95)]) (E := 73) (bmap1 rfl) (fun w => by kernel_rfl)) (fun n99 w100 S101 => ?_)
   simp only [pS, pN, pA, pC, pZ]
   have S101 : St w F w100 F88 [⟨n99, [(.int .i64 (((bitT cur) : Nat) : Int)), (.bool (bitL k (bitT cur))), (.slice xa94 (rootT (cur.drop (leftN (bitT cur) cur))).length xc95)], 73⟩, ⟨n45, [(.int .i64 (((bitT cur) : Nat) : Int)), (.bool (bitL k (bitT cur))), (.slice xa94 (rootT (cur.drop (leftN (bitT cur) cur))).length xc95)], 73⟩, ⟨n25, [(.bool false), sv, (.slice none 0 0), (.slice none 0 0)], 52⟩, ⟨n16, [(.bool (getT l k).isSome), (.slice a13 ((getT l k).getD []).length c14)], 65⟩, ⟨n2, [(.bool false), (.slice none 0 0), (.slice none 0 0), (.slice none 0 0)], 52⟩] [ownP 3 StpC StpC.mono 73 w.heap.size sv ss] := S101
   refine stPush (i := 0) (r := 0) (p := (⟨bitT cur, bitL k (bitT cur), rootT (sideT (bitT cur) (!false) cur)⟩ : Stp)) (cs := [(.int .i64 (((bitT cur) : Nat) : Int)), (.bool (bitL k (bitT cur))), (.slice xa94 (rootT (cur.drop (leftN (bitT cur) cur))).length xc95)]) S101 rfl i73 (.agg #[(.int .i64 0), (.bool false), (.slice none 0 0)]) 40 Tryd.underlying50 hi73 hz73 hs73 hb73 rfl (by decide) rfl rfl rfl rfl rfl (StpC.oneCell (p := (⟨bitT cur, bitL k (bitT cur), rootT (sideT (bitT cur) (!false) cur)⟩ : Stp)) ⟨_, _, _, rfl, rfl, rfl, r93⟩) (⟨_, _, _, rfl, rfl, rfl, r93⟩) (Nat.le_refl _) S101.gr.below.size (by unfold maxLen; omega) (by omega) ?_
   intro v102 w103 S104 hn105
   simp only [pS, pN, pA, pC, pZ]
   have S104 := St.drop S104 (L' := [⟨n45, [(.int .i64 (((bitT cur) : Nat) : Int)), (.bool (bitL k (bitT cur))), (.slice xa94 (rootT (cur.drop (leftN (bitT cur) cur))).length xc95)], 73⟩, ⟨n25, [(.bool false), sv, (.slice none 0 0), (.slice none 0 0)], 52⟩, ⟨n16, [(.bool (getT l k).isSome), (.slice a13 ((getT l k).getD []).length c14)], 65⟩, ⟨n2, [(.bool false), (.slice none 0 0), (.slice none 0 0), (.slice none 0 0)], 52⟩]) (.cons _ (List.Sublist.refl _))
   have S104 : St w F w103 F88 [⟨n45, [(.int .i64 (((bitT cur) : Nat) : Int)), (.bool (bitL k (bitT cur))), (.slice xa94 (rootT (cur.drop (leftN (bitT cur) cur))).length xc95)], 73⟩, ⟨n25, [(.bool false), sv, (.slice none 0 0), (.slice none 0 0)], 52⟩, ⟨n16, [(.bool (getT l k).isSome), (.slice a13 ((getT l k).getD []).length c14)], 65⟩, ⟨n2, [(.bool false), (.slice none 0 0), (.slice none 0 0), (.slice none 0 0)], 52⟩] [ownP 3 StpC StpC.mono 73 w.heap.size v102 (ss ++ [(⟨bitT cur, bitL k (bitT cur), rootT (sideT (bitT cur) (!false) cur)⟩ : Stp)])] := S104
   obtain ⟨a106, cap107, rfl, h108, h109⟩ := (S104.own (i := 0) rfl).shape
   unfold maxLen at h109
   refine do_ rfl (.pointer (some ⟨n25, 1, none⟩)) (ex_field (q := ⟨n25, 1, none⟩) rfl (fa_52_1 _ _)) ?_
   simp only [pS, pN, pA, pC, pZ]
   refine stStore (i := 1) (v := (.slice a106 (ss ++ [(⟨bitT cur, bitL k (bitT cur), rootT (sideT (bitT cur) (!false) cur)⟩ : Stp)]).length cap107)) S104 rfl rfl rfl rfl (size_50) (allc1 rfl) (Nat.le_of_ble_eq_true rfl) (fun w110 S111 => ?_)
   simp only [pS, pN, pA, pC, pZ]
   have S111 : St w F w110 F88 [⟨n45, [(.int .i64 (((bitT cur) : Nat) : Int)), (.bool (bitL k (bitT cur))), (.slice xa94 (rootT (cur.drop (leftN (bitT cur) cur))).length xc95)], 73⟩, ⟨n25, [(.bool false), (.slice a106 (ss ++ [(⟨bitT cur, bitL k (bitT cur), rootT (sideT (bitT cur) (!false) cur)⟩ : Stp)]).length cap107), (.slice none 0 0), (.slice none 0 0)], 52⟩, ⟨n16, [(.bool (getT l k).isSome), (.slice a13 ((getT l k).getD []).length c14)], 65⟩, ⟨n2, [(.bool false), (.slice none 0 0), (.slice none 0 0), (.slice none 0 0)], 52⟩] [ownP 3 StpC StpC.mono 73 w.heap.size (.slice a106 (ss ++ [(⟨bitT cur, bitL k (bitT cur), rootT (sideT (bitT cur) (!false) cur)⟩ : Stp)]).length cap107) (ss ++ [(⟨bitT cur, bitL k (bitT cur), rootT (sideT (bitT cur) (!false) cur)⟩ : Stp)])] := S111
   refine wl_nil ?_
   have S111 := St.drop S111 (L' := [⟨n25, [(.bool false), (.slice a106 (ss ++ [(⟨bitT cur, bitL k (bitT cur), rootT (sideT (bitT cur) (!false) cur)⟩ : Stp)]).length cap107), (.slice none 0 0), (.slice none 0 0)], 52⟩, ⟨n16, [(.bool (getT l k).isSome), (.slice a13 ((getT l k).getD []).length c14)], 65⟩, ⟨n2, [(.bool false), (.slice none 0 0), (.slice none 0 0), (.slice none 0 0)], 52⟩]) (.cons _ (List.Sublist.refl _))
   exact hK38 _ _ _ (by omega) ⟨n', (cur.take (leftN (bitT cur) cur)), xa, xc, (.slice a106 (ss ++ [(⟨bitT cur, bitL k (bitT cur), rootT (sideT (bitT cur) (!false) cur)⟩ : Stp)]).length cap107), (ss ++ [(⟨bitT cur, bitL k (bitT cur), rootT (sideT (bitT cur) (!false) cur)⟩ : Stp)]), F88, _, rfl, rfl, rfl, S111, (le37.trans le89), (hcl.mono le89), (sub_ok okc (List.take_sublist _ _)), (by rw [List.length_take]; omega), (by rw [List.length_take]; omega), (steps_step hst (by omega) false hb), (by rw [List.length_append, List.length_take]; simp only [List.length_cons, List.length_nil]; omega)⟩
 ·refine do_ rfl (.bool false) (ex_gtr (m := ((cur.length : Nat) : Int)) (n := (1 : Int)) (b := false) rfl rfl (decide_eq_false (by omega))) ?_
  simp only [pS, pN, pA, pC, pZ]
  refine wl_nil (hK40 _ _ ?_)
  refine wp_cond_false rfl ?_
  refine wp_exit ?_
  refine hK28 _ _ ?_
  refine wp_seq_k (fun K112 hK112 => ?_)
  obtain ⟨a113, cap114, rfl, h115, h116⟩ := (S36.own (i := 0) rfl).shape
  unfold maxLen at h116
  obtain ⟨p, hp⟩ : ∃ p, cur[0]? = some p := ⟨cur[0], List.getElem?_eq_getElem (by omega)⟩
  have hpo := okc.ok p (List.mem_of_getElem? hp)
  have hp1 := hpo.2.1
  have hp2 := hpo.2.2
  have hend := steps_end hst (by omega) hp
  obtain ⟨b117, o118, ha119, xa121, xc122, xa125, xc126, c120, c124, r123, r127⟩ := Prs.get hcur hp
  refine region_wl ?_
  refine do_ rfl (.slice xa cur.length xc) (ex_move _) ?_
  simp only [pS, pN, pA, pC, pZ]
  refine do_ rfl (.pointer (some ⟨b117, o118 + 0 * 2, none⟩)) (ex_at (i := 0) (sz := 2) Tryd.underlying40 (sizeof_38 _) rfl ha119 rfl (by omega) rfl) ?_
  simp only [pS, pN, pA, pC, pZ]
  refine do_ rfl (.agg #[(.slice xa121 p.1.length xc122), (.slice xa125 p.2.length xc126)]) (ex_load rfl (loadN (cs := [(.slice xa121 p.1.length xc122), (.slice xa125 p.2.length xc126)]) Tryd.underlying38 rfl (size_38) (range2 (St.fz S36 c120) (St.fz S36 c124)))) ?_
  simp only [pS, pN, pA, pC, pZ]
  refine stGives S36 rfl (ex_fn (vs := #[(.agg #[(.slice xa121 p.1.length xc122), (.slice xa125 p.2.length xc126)])]) (map1 rfl) rfl (ent_43 _ _)) (ownP_spec _ _ _ p (S36).sat ⟨_, _, _, _, rfl, r123, r127⟩ (by omega) (by omega)) ?_
  intro v133 w128 F130 S129 le131 R132
  obtain ⟨xa134, xc135, xa136, xc137, rfl, r138, r139⟩ := R132
  simp only [pS, pN, pA, pC, pZ]
  refine do_ rfl (.pointer (some ⟨n25, 2, none⟩)) (ex_field (q := ⟨n25, 2, none⟩) rfl (fa_52_2 _ _)) ?_
  simp only [pS, pN, pA, pC, pZ]
  refine stStore (i := 0) (v := (.agg #[(.slice xa134 p.1.length xc135), (.slice xa136 p.2.length xc137)])) S129 rfl rfl rfl rfl (size_38) (allc2 rfl rfl) (Nat.le_of_ble_eq_true rfl) (fun w140 S141 => ?_)
  simp only [pS, pN, pA, pC, pZ]
  have S141 : St w F w140 F130 [⟨n25, [(.bool false), (.slice a113 ss.length cap114), (.slice xa134 p.1.length xc135), (.slice xa136 p.2.length xc137)], 52⟩, ⟨n16, [(.bool (getT l k).isSome), (.slice a13 ((getT l k).getD []).length c14)], 65⟩, ⟨n2, [(.bool false), (.slice none 0 0), (.slice none 0 0), (.slice none 0 0)], 52⟩] [ownP 3 StpC StpC.mono 73 w.heap.size (.slice a113 ss.length cap114) ss] := S141
  refine wl_nil (hK112 _ _ ?_)
  refine wp_seq_k (fun K142 hK142 => region_wl ?_)
  refine do_ rfl (.agg #[(.bool false), (.slice a113 ss.length cap114), (.slice xa134 p.1.length xc135), (.slice xa136 p.2.length xc137)]) (ex_load rfl (loadN (cs := [(.bool false), (.slice a113 ss.length cap114), (.slice xa134 p.1.length xc135), (.slice xa136 p.2.length xc137)]) Tryd.underlying52 rfl (size_52) (St.range S141 (i := 0) rfl 0 [(.bool false), (.slice a113 ss.length cap114), (.slice xa134 p.1.length xc135), (.slice xa136 p.2.length xc137)] (sub_range 0 rfl)))) ?_
  simp only [pS, pN, pA, pC, pZ]
  refine stStore (i := 2) (v := (.agg #[(.bool false), (.slice a113 ss.length cap114), (.slice xa134 p.1.length xc135), (.slice xa136 p.2.length xc137)])) S141 rfl rfl rfl rfl (size_52) (allc4 rfl rfl rfl rfl) (Nat.le_of_ble_eq_true rfl) (fun w143 S144 => ?_)
  simp only [pS, pN, pA, pC, pZ]
  have S144 : St w F w143 F130 [⟨n25, [(.bool false), (.slice a113 ss.length cap114), (.slice xa134 p.1.length xc135), (.slice xa136 p.2.length xc137)], 52⟩, ⟨n16, [(.bool (getT l k).isSome), (.slice a13 ((getT l k).getD []).length c14)], 65⟩, ⟨n2, [(.bool false), (.slice a113 ss.length cap114), (.slice xa134 p.1.length xc135), (.slice xa136 p.2.length xc137)], 52⟩] [ownP 3 StpC StpC.mono 73 w.heap.size (.slice a113 ss.length cap114) ss] := S144
  refine do_ rfl (.int .i64 0) (ex_assign _) ?_
  simp only [pS, pN, pA, pC, pZ]
  refine wl_nil (hK142 _ _ ?_)
  refine wp_ret ?_
  (try simp only [Exit.then, Exit.inBlock, ↓reduceIte, Nat.reduceEqDiff])
  refine bodyPost_ret (v := (.tuple #[(.agg #[(.bool false), (.slice a113 ss.length cap114), (.slice xa134 p.1.length xc135), (.slice xa136 p.2.length xc137)]), (.int .i64 0)])) ?_ rfl ?_
  ·exact res_ct rfl ⟨_, rfl, loadN (cs := [(.bool false), (.slice a113 ss.length cap114), (.slice xa134 p.1.length xc135), (.slice xa136 p.2.length xc137)]) Tryd.underlying52 rfl (size_52) (St.range S144 (i := 2) rfl 0 [(.bool false), (.slice a113 ss.length cap114), (.slice xa134 p.1.length xc135), (.slice xa136 p.2.length xc137)] (sub_range 0 rfl))⟩ rfl
  ·have hpv : proveT l k = ⟨false, ss, p⟩ := by unfold proveT; rw [if_neg (fun e => by rw [e] at hz; simp at hz), hend]
   rw [hpv]
   exact ⟨_, _, _, _, _, _, rfl, S144.gr, St.own (i := 0) S144 rfl, r138, r139⟩
theorem prove_spec (F : Fz) (w : World) (v u : Value) (l : List Pr) (k : By) (hs : Sat w F) (hT : Tabs w) (hv : Prs F v l) (hu : Bs F u k) (ok : TreeOk 60 l) (hk : 1 ≤ k.length ∧ k.length ≤ 16) :
    Calls Tryd.prog 27 #[v, u] w (GivesPrf w F (proveT l k)) := by
  rcases Nat.eq_zero_or_pos l.length with h | h
  · exact proveNil_spec F w v u l k hs hT hv hu ok hk h
  · exact proveOk_spec F w v u l k hs hT hv hu ok hk h
end Go.Proofs.YtcanckliggcllaaDoor
namespace Go.Proofs.YtcanckliggcllaaDoor
open Go.RowKit
set_option maxRecDepth 100000
set_option linter.unusedVariables false
set_option linter.unusedSimpArgs false
/-- Steps as a proof that was made has them. -/
def StpsOk (l : List Stp) : Prop := ∀ s ∈ l, s.bit < 145 ∧ s.other.length = 32
theorem wayB_step {k pk : By} {last : Int} {l : List Stp} {i : Nat} {s : Stp} (hp : l[i]? = some s) (h1 : last < s.bit) (h2 : bitL k s.bit = s.right) (h3 : bitL pk s.bit = s.right) (hs : s.bit < 145) (ho : s.other.length = 32) : wayB k pk last (l.drop i) = wayB k pk s.bit (l.drop (i + 1)) := by
  obtain ⟨hi, rfl⟩ := List.getElem?_eq_some_iff.1 hp
  rw [List.drop_eq_getElem_cons hi, wayB, h2, h3]
  simp [h1, hs, ho]
theorem wayB_bad {k pk : By} {last : Int} {l : List Stp} {i : Nat} {s : Stp} (hp : l[i]? = some s) (h : ¬ (last < s.bit) ∨ bitL k s.bit ≠ s.right ∨ bitL pk s.bit ≠ s.right) : wayB k pk last (l.drop i) = false := by
  obtain ⟨hi, rfl⟩ := List.getElem?_eq_some_iff.1 hp
  rw [List.drop_eq_getElem_cons hi, wayB]
  rcases h with h | h | h
  · simp [h]
  · simp [h]
  · simp [h]
theorem check0_spec (F : Fz) (w : World) (v : Value) (l : List UInt8) (hv : Bs F v l) (hk : 1 ≤ l.length ∧ l.length ≤ 16) : Calls Tryd.prog 38 #[v] w fun e w' => e = .returned (.int .i64 0) ∧ w' = w := by
  have := check_spec F w v l hv
  rwa [checkN_ok hk.1 hk.2] at this
set_option maxHeartbeats 8000000 in
theorem checkPair_spec (F : Fz) (w : World) (v u : Value) (k : By) (p : Prf) (hs : Sat w F) (hu : Bs F u k) (hv : PrfV F v p) (hk : 1 ≤ k.length ∧ k.length ≤ 16) (he : p.empty = false) (hpo : TreeOk 60 [p.pair]) (hso : StpsOk p.steps) (hl : p.steps.length ≤ 1000) :
    Calls Tryd.prog 34 #[u, v] w (Tells w (.int .i64 (if wayB k p.pair.1 (-1) p.steps = true then 0 else 4))) := by
 obtain ⟨sa, sc, pa, pc, qa, qc, rfl, h1, h2, h3⟩ := hv
 obtain ⟨ka, kc, rfl, hk1, hk2⟩ := hu.shape
 obtain ⟨_, _, e1, q1, q2⟩ := Sl.shape h1
 injection e1 with _ _ e1
 subst e1
 unfold maxLen at hk2 q2
 rw [he]
 have hpk := (hpo.ok p.pair (by simp))
 have hpk : 1 ≤ p.pair.1.length ∧ p.pair.1.length ≤ 16 := ⟨hpk.1, hpk.2.1⟩
 have S := St.start hs
 go_enter Tryd.func34, Tryd.ntmps34
 refine wp_seq_k (fun K1 hK1 => region_wl ?_)
 refine stNew S (v := fun n => .pointer (some ⟨n, 0, none⟩)) rfl (ex_box (v := (.agg #[(.bool false), (.slice sa p.steps.length sc), (.slice pa p.pair.1.length pc), (.slice qa p.pair.2.length qc)])) rfl) (fun n2 w3 S4 => ?_)
 simp only [pS, pN, pA, pC, pZ]
 have S4 : St w F w3 F [⟨n2, [(.bool false), (.slice sa p.steps.length sc), (.slice pa p.pair.1.length pc), (.slice qa p.pair.2.length qc)], 52⟩] [] := S4
 refine do_ rfl (.int .i64 0) (ex_assign _) ?_
 simp only [pS, pN, pA, pC, pZ]
 refine wl_nil (hK1 _ _ ?_)
 refine wp_seq_k (fun K5 hK5 => ?_)
 refine wp_seq_k (fun K6 hK6 => region_wl ?_)
 refine do_ rfl (.slice ka k.length kc) (ex_move _) ?_
 simp only [pS, pN, pA, pC, pZ]
 refine stTells (v := (.int .i64 0)) S4 rfl (ex_fn (vs := #[(.slice ka k.length kc)]) (map1 rfl) rfl (ent_38 _ _)) (tells_same (check0_spec _ _ _ k hu hk)) (fun w7 S8 => ?_)
 simp only [pS, pN, pA, pC, pZ]
 refine do_ rfl (.int .i64 0) (ex_assign _) ?_
 simp only [pS, pN, pA, pC, pZ]
 refine wl_nil (hK6 _ _ ?_)
 refine wp_seq_k (fun K9 hK9 => region_wl ?_)
 refine do_ rfl (.int .i64 0) (ex_move _) ?_
 simp only [pS, pN, pA, pC, pZ]
 refine do_ rfl (.bool false) (ex_neq (m := (0 : Int)) (n := (0 : Int)) (b := false) rfl rfl (bne_eq_false_iff_eq.2 (by omega))) ?_
 simp only [pS, pN, pA, pC, pZ]
 refine wl_nil (hK9 _ _ ?_)
 refine wp_cond_false rfl ?_
 refine wp_skip ?_
 refine hK5 _ _ ?_
 refine wp_seq_k (fun K10 hK10 => ?_)
 refine wp_seq_k (fun K11 hK11 => region_wl ?_)
 refine do_ rfl (.pointer (some ⟨n2, 0, none⟩)) (ex_field (q := ⟨n2, 0, none⟩) rfl (fa_52_0 _ _)) ?_
 simp only [pS, pN, pA, pC, pZ]
 refine do_ rfl (.bool false) (ex_load rfl (load1 (nagg_4 _) (St.cell S8 (i := 0) rfl rfl))) ?_
 simp only [pS, pN, pA, pC, pZ]
 refine wl_nil (hK11 _ _ ?_)
 refine wp_cond_false rfl ?_
 refine wp_skip ?_
 refine hK10 _ _ ?_
 refine wp_seq_k (fun K12 hK12 => ?_)
 refine wp_seq_k (fun K13 hK13 => region_wl ?_)
 refine do_ rfl (.pointer (some ⟨n2, 2, none⟩)) (ex_field (q := ⟨n2, 2, none⟩) rfl (fa_52_2 _ _)) ?_
 simp only [pS, pN, pA, pC, pZ]
 refine do_ rfl (.agg #[(.slice pa p.pair.1.length pc), (.slice qa p.pair.2.length qc)]) (ex_load rfl (loadN (cs := [(.slice pa p.pair.1.length pc), (.slice qa p.pair.2.length qc)]) Tryd.underlying38 rfl (size_38) (St.range S8 (i := 0) rfl 2 [(.slice pa p.pair.1.length pc), (.slice qa p.pair.2.length qc)] (sub_range 2 rfl)))) ?_
 simp only [pS, pN, pA, pC, pZ]
 refine stNew S8 (v := fun n => .slice (some ⟨n, 0, none⟩) 1 1) rfl (ex_lit (ps := #[(0, (.agg #[(.slice pa p.pair.1.length pc), (.slice qa p.pair.2.length qc)]))]) (cells := #[(.slice pa p.pair.1.length pc), (.slice qa p.pair.2.length qc)]) (E := 38) (bmap1 rfl) (fun w => by kernel_rfl)) (fun n14 w15 S16 => ?_)
 simp only [pS, pN, pA, pC, pZ]
 have S16 : St w F w15 F [⟨n14, [(.slice pa p.pair.1.length pc), (.slice qa p.pair.2.length qc)], 38⟩, ⟨n2, [(.bool false), (.slice sa p.steps.length sc), (.slice pa p.pair.1.length pc), (.slice qa p.pair.2.length qc)], 52⟩] [] := S16
 obtain ⟨S17, le18, hc19⟩ := St.freezeBlk S16 (i := 0) rfl
 have r21 : Prs _ (.slice (some ⟨n14, 0, none⟩) 1 1) ([(p.pair.1, p.pair.2)] : List Pr) := sl_of_block (R := PrC) (l := ([(p.pair.1, p.pair.2)] : List Pr)) (el := [[(.slice pa p.pair.1.length pc), (.slice qa p.pair.2.length qc)]]) hc19 rfl ⟨⟨_, _, rfl, (h2.mono le18), (h3.mono le18)⟩, trivial⟩ (by simp) (by unfold maxLen; simp)
 generalize addF F w15 n14 = F20 at *
 have S17 : St w F w15 F20 [⟨n2, [(.bool false), (.slice sa p.steps.length sc), (.slice pa p.pair.1.length pc), (.slice qa p.pair.2.length qc)], 52⟩] [] := S17
 refine stTells (v := (.int .i64 0)) S17 rfl (ex_fn (vs := #[(.slice (some ⟨n14, 0, none⟩) 1 1)]) (map1 rfl) rfl (ent_26 _ _)) (treeCheckOk_spec _ _ _ [p.pair] (S17).sat (by simpa using r21) hpo) (fun w22 S23 => ?_)
 simp only [pS, pN, pA, pC, pZ]
 refine do_ rfl (.bool false) (ex_neq (m := (0 : Int)) (n := (0 : Int)) (b := false) rfl rfl (bne_eq_false_iff_eq.2 (by omega))) ?_
 simp only [pS, pN, pA, pC, pZ]
 refine wl_nil (hK13 _ _ ?_)
 refine wp_cond_false rfl ?_
 refine wp_skip ?_
 refine hK12 _ _ ?_
 refine wp_seq_k (fun K24 hK24 => region_wl ?_)
 refine do_ rfl (.int .i64 (-1)) (ex_assign _) ?_
 simp only [pS, pN, pA, pC, pZ]
 refine wl_nil (hK24 _ _ ?_)
 refine wp_seq_k (fun K25 hK25 => ?_)
 refine wp_seq_k (fun K26 hK26 => region_wl ?_)
 refine do_ rfl (.pointer (some ⟨n2, 1, none⟩)) (ex_field (q := ⟨n2, 1, none⟩) rfl (fa_52_1 _ _)) ?_
 simp only [pS, pN, pA, pC, pZ]
 refine do_ rfl (.slice sa p.steps.length sc) (ex_load rfl (load1 (nagg_50 _) (St.cell S23 (i := 0) rfl rfl))) ?_
 simp only [pS, pN, pA, pC, pZ]
 refine do_ rfl (.int .i64 ((p.steps.length : Nat) : Int)) (ex_len Tryd.underlying50 rfl) ?_
 simp only [pS, pN, pA, pC, pZ]
 refine do_ rfl (.int .i64 0) (ex_move _) ?_
 simp only [pS, pN, pA, pC, pZ]
 refine wl_nil (hK26 _ _ ?_)
 refine wp_block ?_
 refine wp_loop_g (fun mm aa w29 => ∃ (i : Nat) (last : Int) (F27 : Fz) (u28 : Nat → Value), mm = p.steps.length - i ∧ u28 = slots aa ∧ aa = ⟨#[(.slice ka k.length kc), (.agg #[(.bool false), (.slice sa p.steps.length sc), (.slice pa p.pair.1.length pc), (.slice qa p.pair.2.length qc)]), undef, (.pointer (some ⟨n2, 0, none⟩)), (u28 4), (.int .i64 0), (.int .i64 last), undef, (u28 8), (u28 9), (u28 10), (u28 11), (u28 12), (.slice ka k.length kc), (.int .i64 0), (.int .i64 0), (.bool false), undef, (.pointer (some ⟨n2, 0, none⟩)), (.bool false), undef, undef, undef, undef, undef, undef, undef, undef, undef, undef, (.pointer (some ⟨n2, 2, none⟩)), (.agg #[(.slice pa p.pair.1.length pc), (.slice qa p.pair.2.length qc)]), (.slice (some ⟨n14, 0, none⟩) 1 1), (.int .i64 0), (.bool false), (.pointer (some ⟨n2, 1, none⟩)), (.slice sa p.steps.length sc), (.int .i64 ((p.steps.length : Nat) : Int)), (.int .i64 ((i : Nat) : Int)), (u28 39), (u28 40), (u28 41), (u28 42), (u28 43), (u28 44), (u28 45), (u28 46), (u28 47), (u28 48), (u28 49), (u28 50), (u28 51), (u28 52), (u28 53), (u28 54), (u28 55), (u28 56), (u28 57), (u28 58), (u28 59), (u28 60), (u28 61), (u28 62), (u28 63), (u28 64), (u28 65), (u28 66), (u28 67), (u28 68), (u28 69), (u28 70), (u28 71), (u28 72), (u28 73), (u28 74), (u28 75), (u28 76), (u28 77), (u28 78), (u28 79), (u28 80), (u28 81), (u28 82), (u28 83), (u28 84), (u28 85), (u28 86)], []⟩ ∧ St w F w29 F27 [⟨n2, [(.bool false), (.slice sa p.steps.length sc), (.slice pa p.pair.1.length pc), (.slice qa p.pair.2.length qc)], 52⟩] [] ∧ Le F20 F27 ∧ (i ≤ p.steps.length) ∧ (-1 ≤ last ∧ last ≤ 200) ∧ (wayB k p.pair.1 last (p.steps.drop i) = wayB k p.pair.1 (-1) p.steps)) _ ⟨0, (-1), F20, _, rfl, rfl, rfl, S23, Le.refl _, (by omega), (by omega), rfl⟩ ?_
 rintro m30 a31 w32 ⟨i, last, F27, u28, rfl, -, rfl, S33, le34, hi, hlast, hw⟩ K35 hK35
 refine wp_seq_k (fun K36 hK36 => region_wl ?_)
 by_cases hc39 : i < p.steps.length
 ·refine do_ rfl (.bool true) (ex_lss (m := ((i : Nat) : Int)) (n := ((p.steps.length : Nat) : Int)) (b := true) rfl rfl (decide_eq_true (by omega))) ?_
  simp only [pS, pN, pA, pC, pZ]
  refine wl_nil (hK36 _ _ ?_)
  refine wp_seq_k (fun K37 hK37 => ?_)
  refine wp_cond_true rfl ?_
  refine wp_skip ?_
  refine hK37 _ _ ?_
  refine wp_seq_k (fun K38 hK38 => ?_)
  refine wp_block ?_
  refine wp_seq_k (fun K39 hK39 => ?_)
  obtain ⟨q, hp⟩ : ∃ q, p.steps[i]? = some q := ⟨p.steps[i], List.getElem?_eq_getElem hc39⟩
  have hq := hso q (List.mem_of_getElem? hp)
  have hq1 := hq.1
  have hq2 := hq.2
  obtain ⟨b40, o41, ha42, xa46, xc47, c43, c44, c45, r48⟩ := Stps.get (h1.mono (le18.trans le34)) hp
  refine region_wl ?_
  refine do_ rfl (.pointer (some ⟨b40, o41 + i * 3, none⟩)) (ex_at (i := i) (sz := 3) Tryd.underlying50 (sizeof_73 _) rfl ha42 rfl (by omega) rfl) ?_
  simp only [pS, pN, pA, pC, pZ]
  refine do_ rfl (.agg #[(.int .i64 ((q.bit : Nat) : Int)), (.bool q.right), (.slice xa46 q.other.length xc47)]) (ex_load rfl (loadN (cs := [(.int .i64 ((q.bit : Nat) : Int)), (.bool q.right), (.slice xa46 q.other.length xc47)]) Tryd.underlying73 rfl (size_73) (range3 (St.fz S33 c43) (St.fz S33 c44) (St.fz S33 c45)))) ?_
  simp only [pS, pN, pA, pC, pZ]
  refine stNew S33 (v := fun n => .pointer (some ⟨n, 0, none⟩)) rfl (ex_alloc (zero_73 _)) (fun n49 w50 S51 => ?_)
  simp only [pS, pN, pA, pC, pZ]
  have S51 : St w F w50 F27 [⟨n49, [(.int .i64 0), (.bool false), (.slice none 0 0)], 73⟩, ⟨n2, [(.bool false), (.slice sa p.steps.length sc), (.slice pa p.pair.1.length pc), (.slice qa p.pair.2.length qc)], 52⟩] [] := S51
  refine stStore (i := 0) (v := (.agg #[(.int .i64 ((q.bit : Nat) : Int)), (.bool q.right), (.slice xa46 q.other.length xc47)])) S51 rfl rfl rfl rfl (size_73) (allc3 rfl rfl rfl) (Nat.le_of_ble_eq_true rfl) (fun w52 S53 => ?_)
  simp only [pS, pN, pA, pC, pZ]
  have S53 : St w F w52 F27 [⟨n49, [(.int .i64 ((q.bit : Nat) : Int)), (.bool q.right), (.slice xa46 q.other.length xc47)], 73⟩, ⟨n2, [(.bool false), (.slice sa p.steps.length sc), (.slice pa p.pair.1.length pc), (.slice qa p.pair.2.length qc)], 52⟩] [] := S53
  refine wl_nil (hK39 _ _ ?_)
  refine wp_seq_k (fun K54 hK54 => region_wl ?_)
  refine do_ rfl (.slice ka k.length kc) (ex_move _) ?_
  simp only [pS, pN, pA, pC, pZ]
  refine do_ rfl (.pointer (some ⟨n49, 0, none⟩)) (ex_field (q := ⟨n49, 0, none⟩) rfl (fa_73_0 _ _)) ?_
  simp only [pS, pN, pA, pC, pZ]
  refine do_ rfl (.int .i64 ((q.bit : Nat) : Int)) (ex_load rfl (load1 (nagg_3 _) (St.cell S53 (i := 0) rfl rfl))) ?_
  simp only [pS, pN, pA, pC, pZ]
  refine stTells (v := (.tuple #[(.bool (bitL k q.bit)), (.int .i64 0)])) S53 rfl (ex_fn (vs := #[(.slice ka k.length kc), (.int .i64 ((q.bit : Nat) : Int))]) (map2 rfl rfl) rfl (ent_25 _ _)) (tells_same (bitE_spec _ _ _ k _ (S53).sat (hu.mono (le18.trans le34)) hk.1 hk.2 (by omega) (by omega))) (fun w55 S56 => ?_)
  simp only [pS, pN, pA, pC, pZ]
  refine do_ rfl (.tuple #[(.bool (bitL k q.bit)), (.int .i64 0)]) (ex_move _) ?_
  simp only [pS, pN, pA, pC, pZ]
  refine do_ rfl (.bool (bitL k q.bit)) (ex_extract rfl rfl) ?_
  simp only [pS, pN, pA, pC, pZ]
  refine do_ rfl (.int .i64 0) (ex_extract rfl rfl) ?_
  simp only [pS, pN, pA, pC, pZ]
  refine do_ rfl (.bool (bitL k q.bit)) (ex_assign _) ?_
  simp only [pS, pN, pA, pC, pZ]
  refine do_ rfl (.int .i64 0) (ex_assign _) ?_
  simp only [pS, pN, pA, pC, pZ]
  refine wl_nil (hK54 _ _ ?_)
  refine wp_seq_k (fun K57 hK57 => region_wl ?_)
  refine do_ rfl (.pointer (some ⟨n2, 2, none⟩)) (ex_field (q := ⟨n2, 2, none⟩) rfl (fa_52_2 _ _)) ?_
  simp only [pS, pN, pA, pC, pZ]
  refine do_ rfl (.pointer (some ⟨n2, 2, none⟩)) (ex_field (q := ⟨n2, 2, none⟩) rfl (fa_38_0 _ _)) ?_
  simp only [pS, pN, pA, pC, pZ]
  refine do_ rfl (.slice pa p.pair.1.length pc) (ex_load rfl (load1 (nagg_22 _) (St.cell S56 (i := 1) rfl rfl))) ?_
  simp only [pS, pN, pA, pC, pZ]
  refine do_ rfl (.pointer (some ⟨n49, 0, none⟩)) (ex_field (q := ⟨n49, 0, none⟩) rfl (fa_73_0 _ _)) ?_
  simp only [pS, pN, pA, pC, pZ]
  refine do_ rfl (.int .i64 ((q.bit : Nat) : Int)) (ex_load rfl (load1 (nagg_3 _) (St.cell S56 (i := 0) rfl rfl))) ?_
  simp only [pS, pN, pA, pC, pZ]
  refine stTells (v := (.tuple #[(.bool (bitL p.pair.1 q.bit)), (.int .i64 0)])) S56 rfl (ex_fn (vs := #[(.slice pa p.pair.1.length pc), (.int .i64 ((q.bit : Nat) : Int))]) (map2 rfl rfl) rfl (ent_25 _ _)) (tells_same (bitE_spec _ _ _ p.pair.1 _ (S56).sat (h2.mono (le18.trans le34)) hpk.1 hpk.2 (by omega) (by omega))) (fun w58 S59 => ?_)
  simp only [pS, pN, pA, pC, pZ]
  refine do_ rfl (.tuple #[(.bool (bitL p.pair.1 q.bit)), (.int .i64 0)]) (ex_move _) ?_
  simp only [pS, pN, pA, pC, pZ]
  refine do_ rfl (.bool (bitL p.pair.1 q.bit)) (ex_extract rfl rfl) ?_
  simp only [pS, pN, pA, pC, pZ]
  refine do_ rfl (.int .i64 0) (ex_extract rfl rfl) ?_
  simp only [pS, pN, pA, pC, pZ]
  refine do_ rfl (.bool (bitL p.pair.1 q.bit)) (ex_assign _) ?_
  simp only [pS, pN, pA, pC, pZ]
  refine do_ rfl (.int .i64 0) (ex_assign _) ?_
  simp only [pS, pN, pA, pC, pZ]
  refine wl_nil (hK57 _ _ ?_)
  refine wp_seq_k (fun K60 hK60 => ?_)
  refine wp_seq_k (fun K61 hK61 => ?_)
  by_cases hb1 : last < ((q.bit : Nat) : Int)
  ·by_cases hb2 : bitL k q.bit = q.right
   ·by_cases hb3 : bitL p.pair.1 q.bit = q.right
    ·refine region_wl ?_
     refine do_ rfl (.int .i64 0) (ex_move _) ?_
     simp only [pS, pN, pA, pC, pZ]
     refine do_ rfl (.bool false) (ex_neq (m := (0 : Int)) (n := (0 : Int)) (b := false) rfl rfl (bne_eq_false_iff_eq.2 (by omega))) ?_
     simp only [pS, pN, pA, pC, pZ]
     refine do_ rfl (.bool false) (ex_move _) ?_
     simp only [pS, pN, pA, pC, pZ]
     refine do_ rfl (.pointer (some ⟨n49, 0, none⟩)) (ex_field (q := ⟨n49, 0, none⟩) rfl (fa_73_0 _ _)) ?_
     simp only [pS, pN, pA, pC, pZ]
     refine do_ rfl (.int .i64 ((q.bit : Nat) : Int)) (ex_load rfl (load1 (nagg_3 _) (St.cell S59 (i := 0) rfl rfl))) ?_
     simp only [pS, pN, pA, pC, pZ]
     refine do_ rfl (.int .i64 last) (ex_move _) ?_
     simp only [pS, pN, pA, pC, pZ]
     refine do_ rfl (.bool false) (ex_leq (m := ((q.bit : Nat) : Int)) (n := last) (b := false) rfl rfl (decide_eq_false (by omega))) ?_
     simp only [pS, pN, pA, pC, pZ]
     refine do_ rfl (.bool false) (ex_pick (b := false) rfl) ?_
     simp only [pS, pN, pA, pC, pZ]
     refine do_ rfl (.bool false) (ex_move _) ?_
     simp only [pS, pN, pA, pC, pZ]
     refine do_ rfl (.bool (bitL k q.bit)) (ex_move _) ?_
     simp only [pS, pN, pA, pC, pZ]
     refine do_ rfl (.pointer (some ⟨n49, 1, none⟩)) (ex_field (q := ⟨n49, 1, none⟩) rfl (fa_73_1 _ _)) ?_
     simp only [pS, pN, pA, pC, pZ]
     refine do_ rfl (.bool q.right) (ex_load rfl (load1 (nagg_4 _) (St.cell S59 (i := 0) rfl rfl))) ?_
     simp only [pS, pN, pA, pC, pZ]
     refine do_ rfl (.bool false) (ex_neqB Tryd.underlying4 rfl rfl (bne_eq_false_iff_eq.2 hb2)) ?_
     simp only [pS, pN, pA, pC, pZ]
     refine do_ rfl (.bool false) (ex_pick (b := false) rfl) ?_
     simp only [pS, pN, pA, pC, pZ]
     refine do_ rfl (.bool false) (ex_move _) ?_
     simp only [pS, pN, pA, pC, pZ]
     refine do_ rfl (.bool (bitL p.pair.1 q.bit)) (ex_move _) ?_
     simp only [pS, pN, pA, pC, pZ]
     refine do_ rfl (.pointer (some ⟨n49, 1, none⟩)) (ex_field (q := ⟨n49, 1, none⟩) rfl (fa_73_1 _ _)) ?_
     simp only [pS, pN, pA, pC, pZ]
     refine do_ rfl (.bool q.right) (ex_load rfl (load1 (nagg_4 _) (St.cell S59 (i := 0) rfl rfl))) ?_
     simp only [pS, pN, pA, pC, pZ]
     refine do_ rfl (.bool false) (ex_neqB Tryd.underlying4 rfl rfl (bne_eq_false_iff_eq.2 hb3)) ?_
     simp only [pS, pN, pA, pC, pZ]
     refine do_ rfl (.bool false) (ex_pick (b := false) rfl) ?_
     simp only [pS, pN, pA, pC, pZ]
     refine do_ rfl (.bool false) (ex_move _) ?_
     simp only [pS, pN, pA, pC, pZ]
     refine do_ rfl (.pointer (some ⟨n49, 2, none⟩)) (ex_field (q := ⟨n49, 2, none⟩) rfl (fa_73_2 _ _)) ?_
     simp only [pS, pN, pA, pC, pZ]
     refine do_ rfl (.slice xa46 q.other.length xc47) (ex_load rfl (load1 (nagg_22 _) (St.cell S59 (i := 0) rfl rfl))) ?_
     simp only [pS, pN, pA, pC, pZ]
     refine do_ rfl (.int .i64 ((q.other.length : Nat) : Int)) (ex_len Tryd.underlying22 rfl) ?_
     simp only [pS, pN, pA, pC, pZ]
     refine do_ rfl (.bool false) (ex_neq (m := ((q.other.length : Nat) : Int)) (n := (32 : Int)) (b := false) rfl rfl (bne_eq_false_iff_eq.2 (by omega))) ?_
     simp only [pS, pN, pA, pC, pZ]
     refine do_ rfl (.bool false) (ex_pick (b := false) rfl) ?_
     simp only [pS, pN, pA, pC, pZ]
     refine wl_nil (hK61 _ _ ?_)
     refine wp_cond_false rfl ?_
     refine wp_skip ?_
     refine hK60 _ _ ?_
     refine region_wl ?_
     refine do_ rfl (.pointer (some ⟨n49, 0, none⟩)) (ex_field (q := ⟨n49, 0, none⟩) rfl (fa_73_0 _ _)) ?_
     simp only [pS, pN, pA, pC, pZ]
     refine do_ rfl (.int .i64 ((q.bit : Nat) : Int)) (ex_load rfl (load1 (nagg_3 _) (St.cell S59 (i := 0) rfl rfl))) ?_
     simp only [pS, pN, pA, pC, pZ]
     refine do_ rfl (.int .i64 ((q.bit : Nat) : Int)) (ex_assign _) ?_
     simp only [pS, pN, pA, pC, pZ]
     refine wl_nil (hK38 _ _ ?_)
     refine region_wl ?_
     refine do_ rfl (.int .i64 (((i + 1) : Nat) : Int)) (ex_add (m := ((i : Nat) : Int)) (n := (1 : Int)) (r := (((i + 1) : Nat) : Int)) rfl rfl (by omega) (by omega) (by omega)) ?_
     simp only [pS, pN, pA, pC, pZ]
     refine do_ rfl (.int .i64 (((i + 1) : Nat) : Int)) (ex_move _) ?_
     simp only [pS, pN, pA, pC, pZ]
     refine wl_nil ?_
     have S59 := St.drop S59 (L' := [⟨n2, [(.bool false), (.slice sa p.steps.length sc), (.slice pa p.pair.1.length pc), (.slice qa p.pair.2.length qc)], 52⟩]) (.cons _ (List.Sublist.refl _))
     exact hK35 _ _ _ (by omega) ⟨(i + 1), ((q.bit : Nat) : Int), F27, _, rfl, rfl, rfl, S59, le34, (by omega), (by omega), ((wayB_step hp hb1 hb2 hb3 hq.1 hq.2).symm.trans hw)⟩
    ·refine region_wl ?_
     refine do_ rfl (.int .i64 0) (ex_move _) ?_
     simp only [pS, pN, pA, pC, pZ]
     refine do_ rfl (.bool false) (ex_neq (m := (0 : Int)) (n := (0 : Int)) (b := false) rfl rfl (bne_eq_false_iff_eq.2 (by omega))) ?_
     simp only [pS, pN, pA, pC, pZ]
     refine do_ rfl (.bool false) (ex_move _) ?_
     simp only [pS, pN, pA, pC, pZ]
     refine do_ rfl (.pointer (some ⟨n49, 0, none⟩)) (ex_field (q := ⟨n49, 0, none⟩) rfl (fa_73_0 _ _)) ?_
     simp only [pS, pN, pA, pC, pZ]
     refine do_ rfl (.int .i64 ((q.bit : Nat) : Int)) (ex_load rfl (load1 (nagg_3 _) (St.cell S59 (i := 0) rfl rfl))) ?_
     simp only [pS, pN, pA, pC, pZ]
     refine do_ rfl (.int .i64 last) (ex_move _) ?_
     simp only [pS, pN, pA, pC, pZ]
     refine do_ rfl (.bool false) (ex_leq (m := ((q.bit : Nat) : Int)) (n := last) (b := false) rfl rfl (decide_eq_false (by omega))) ?_
     simp only [pS, pN, pA, pC, pZ]
     refine do_ rfl (.bool false) (ex_pick (b := false) rfl) ?_
     simp only [pS, pN, pA, pC, pZ]
     refine do_ rfl (.bool false) (ex_move _) ?_
     simp only [pS, pN, pA, pC, pZ]
     refine do_ rfl (.bool (bitL k q.bit)) (ex_move _) ?_
     simp only [pS, pN, pA, pC, pZ]
     refine do_ rfl (.pointer (some ⟨n49, 1, none⟩)) (ex_field (q := ⟨n49, 1, none⟩) rfl (fa_73_1 _ _)) ?_
     simp only [pS, pN, pA, pC, pZ]
     refine do_ rfl (.bool q.right) (ex_load rfl (load1 (nagg_4 _) (St.cell S59 (i := 0) rfl rfl))) ?_
     simp only [pS, pN, pA, pC, pZ]
     refine do_ rfl (.bool false) (ex_neqB Tryd.underlying4 rfl rfl (bne_eq_false_iff_eq.2 hb2)) ?_
     simp only [pS, pN, pA, pC, pZ]
     refine do_ rfl (.bool false) (ex_pick (b := false) rfl) ?_
     simp only [pS, pN, pA, pC, pZ]
     refine do_ rfl (.bool false) (ex_move _) ?_
     simp only [pS, pN, pA, pC, pZ]
     refine do_ rfl (.bool (bitL p.pair.1 q.bit)) (ex_move _) ?_
     simp only [pS, pN, pA, pC, pZ]
     refine do_ rfl (.pointer (some ⟨n49, 1, none⟩)) (ex_field (q := ⟨n49, 1, none⟩) rfl (fa_73_1 _ _)) ?_
     simp only [pS, pN, pA, pC, pZ]
     refine do_ rfl (.bool q.right) (ex_load rfl (load1 (nagg_4 _) (St.cell S59 (i := 0) rfl rfl))) ?_
     simp only [pS, pN, pA, pC, pZ]
     refine do_ rfl (.bool true) (ex_neqB Tryd.underlying4 rfl rfl (bne_iff_ne.2 hb3)) ?_
     simp only [pS, pN, pA, pC, pZ]
     refine do_ rfl (.bool true) (ex_pick (b := false) rfl) ?_
     simp only [pS, pN, pA, pC, pZ]
     refine do_ rfl (.bool true) (ex_move _) ?_
     simp only [pS, pN, pA, pC, pZ]
     refine doN (wanted_no rfl rfl rfl (c := true) rfl (by decide)) ?_
     simp only [pS, pN, pA, pC, pZ]
     refine doN (wanted_no rfl rfl rfl (c := true) rfl (by decide)) ?_
     simp only [pS, pN, pA, pC, pZ]
     refine doN (wanted_no rfl rfl rfl (c := true) rfl (by decide)) ?_
     simp only [pS, pN, pA, pC, pZ]
     refine doN (wanted_no rfl rfl rfl (c := true) rfl (by decide)) ?_
     simp only [pS, pN, pA, pC, pZ]
     refine do_ rfl (.bool true) (ex_pick (b := true) rfl) ?_
     simp only [pS, pN, pA, pC, pZ]
     refine wl_nil (hK61 _ _ ?_)
     refine wp_cond_true rfl ?_
     refine wp_seq_k (fun K62 hK62 => region_wl ?_)
     refine do_ rfl (.int .i64 4) (ex_assign _) ?_
     simp only [pS, pN, pA, pC, pZ]
     refine wl_nil (hK62 _ _ ?_)
     refine wp_ret ?_
     (try simp only [Exit.then, Exit.inBlock, ↓reduceIte, Nat.reduceEqDiff])
     refine bodyPost_ret (v := (.int .i64 4)) ?_ rfl ?_
     ·exact res_t rfl rfl
     ·rw [wayB_bad hp (.inr (.inr hb3))] at hw
      rw [← hw]
      exact ⟨rfl, S59.gr.below⟩
   ·refine region_wl ?_
    refine do_ rfl (.int .i64 0) (ex_move _) ?_
    simp only [pS, pN, pA, pC, pZ]
    refine do_ rfl (.bool false) (ex_neq (m := (0 : Int)) (n := (0 : Int)) (b := false) rfl rfl (bne_eq_false_iff_eq.2 (by omega))) ?_
    simp only [pS, pN, pA, pC, pZ]
    refine do_ rfl (.bool false) (ex_move _) ?_
    simp only [pS, pN, pA, pC, pZ]
    refine do_ rfl (.pointer (some ⟨n49, 0, none⟩)) (ex_field (q := ⟨n49, 0, none⟩) rfl (fa_73_0 _ _)) ?_
    simp only [pS, pN, pA, pC, pZ]
    refine do_ rfl (.int .i64 ((q.bit : Nat) : Int)) (ex_load rfl (load1 (nagg_3 _) (St.cell S59 (i := 0) rfl rfl))) ?_
    simp only [pS, pN, pA, pC, pZ]
    refine do_ rfl (.int .i64 last) (ex_move _) ?_
    simp only [pS, pN, pA, pC, pZ]
    refine do_ rfl (.bool false) (ex_leq (m := ((q.bit : Nat) : Int)) (n := last) (b := false) rfl rfl (decide_eq_false (by omega))) ?_
    simp only [pS, pN, pA, pC, pZ]
    refine do_ rfl (.bool false) (ex_pick (b := false) rfl) ?_
    simp only [pS, pN, pA, pC, pZ]
    refine do_ rfl (.bool false) (ex_move _) ?_
    simp only [pS, pN, pA, pC, pZ]
    refine do_ rfl (.bool (bitL k q.bit)) (ex_move _) ?_
    simp only [pS, pN, pA, pC, pZ]
    refine do_ rfl (.pointer (some ⟨n49, 1, none⟩)) (ex_field (q := ⟨n49, 1, none⟩) rfl (fa_73_1 _ _)) ?_
    simp only [pS, pN, pA, pC, pZ]
    refine do_ rfl (.bool q.right) (ex_load rfl (load1 (nagg_4 _) (St.cell S59 (i := 0) rfl rfl))) ?_
    simp only [pS, pN, pA, pC, pZ]
    refine do_ rfl (.bool true) (ex_neqB Tryd.underlying4 rfl rfl (bne_iff_ne.2 hb2)) ?_
    simp only [pS, pN, pA, pC, pZ]
    refine do_ rfl (.bool true) (ex_pick (b := false) rfl) ?_
    simp only [pS, pN, pA, pC, pZ]
    refine do_ rfl (.bool true) (ex_move _) ?_
    simp only [pS, pN, pA, pC, pZ]
    refine doN (wanted_no rfl rfl rfl (c := true) rfl (by decide)) ?_
    simp only [pS, pN, pA, pC, pZ]
    refine doN (wanted_no rfl rfl rfl (c := true) rfl (by decide)) ?_
    simp only [pS, pN, pA, pC, pZ]
    refine doN (wanted_no rfl rfl rfl (c := true) rfl (by decide)) ?_
    simp only [pS, pN, pA, pC, pZ]
    refine doN (wanted_no rfl rfl rfl (c := true) rfl (by decide)) ?_
    simp only [pS, pN, pA, pC, pZ]
    refine do_ rfl (.bool true) (ex_pick (b := true) rfl) ?_
    simp only [pS, pN, pA, pC, pZ]
    refine do_ rfl (.bool true) (ex_move _) ?_
    simp only [pS, pN, pA, pC, pZ]
    refine doN (wanted_no rfl rfl rfl (c := true) rfl (by decide)) ?_
    simp only [pS, pN, pA, pC, pZ]
    refine doN (wanted_no rfl rfl rfl (c := true) rfl (by decide)) ?_
    simp only [pS, pN, pA, pC, pZ]
    refine doN (wanted_no rfl rfl rfl (c := true) rfl (by decide)) ?_
    simp only [pS, pN, pA, pC, pZ]
    refine doN (wanted_no rfl rfl rfl (c := true) rfl (by decide)) ?_
    simp only [pS, pN, pA, pC, pZ]
    refine do_ rfl (.bool true) (ex_pick (b := true) rfl) ?_
    simp only [pS, pN, pA, pC, pZ]
    refine wl_nil (hK61 _ _ ?_)
    refine wp_cond_true rfl ?_
    refine wp_seq_k (fun K63 hK63 => region_wl ?_)
    refine do_ rfl (.int .i64 4) (ex_assign _) ?_
    simp only [pS, pN, pA, pC, pZ]
    refine wl_nil (hK63 _ _ ?_)
    refine wp_ret ?_
    (try simp only [Exit.then, Exit.inBlock, ↓reduceIte, Nat.reduceEqDiff])
    refine bodyPost_ret (v := (.int .i64 4)) ?_ rfl ?_
    ·exact res_t rfl rfl
    ·rw [wayB_bad hp (.inr (.inl hb2))] at hw
     rw [← hw]
     exact ⟨rfl, S59.gr.below⟩
  ·refine region_wl ?_
   refine do_ rfl (.int .i64 0) (ex_move _) ?_
   simp only [pS, pN, pA, pC, pZ]
   refine do_ rfl (.bool false) (ex_neq (m := (0 : Int)) (n := (0 : Int)) (b := false) rfl rfl (bne_eq_false_iff_eq.2 (by omega))) ?_
   simp only [pS, pN, pA, pC, pZ]
   refine do_ rfl (.bool false) (ex_move _) ?_
   simp only [pS, pN, pA, pC, pZ]
   refine do_ rfl (.pointer (some ⟨n49, 0, none⟩)) (ex_field (q := ⟨n49, 0, none⟩) rfl (fa_73_0 _ _)) ?_
   simp only [pS, pN, pA, pC, pZ]
   refine do_ rfl (.int .i64 ((q.bit : Nat) : Int)) (ex_load rfl (load1 (nagg_3 _) (St.cell S59 (i := 0) rfl rfl))) ?_
   simp only [pS, pN, pA, pC, pZ]
   refine do_ rfl (.int .i64 last) (ex_move _) ?_
   simp only [pS, pN, pA, pC, pZ]
   refine do_ rfl (.bool true) (ex_leq (m := ((q.bit : Nat) : Int)) (n := last) (b := true) rfl rfl (decide_eq_true (by omega))) ?_
   simp only [pS, pN, pA, pC, pZ]
   refine do_ rfl (.bool true) (ex_pick (b := false) rfl) ?_
   simp only [pS, pN, pA, pC, pZ]
   refine do_ rfl (.bool true) (ex_move _) ?_
   simp only [pS, pN, pA, pC, pZ]
   refine doN (wanted_no rfl rfl rfl (c := true) rfl (by decide)) ?_
   simp only [pS, pN, pA, pC, pZ]
   refine doN (wanted_no rfl rfl rfl (c := true) rfl (by decide)) ?_
   simp only [pS, pN, pA, pC, pZ]
   refine doN (wanted_no rfl rfl rfl (c := true) rfl (by decide)) ?_
   simp only [pS, pN, pA, pC, pZ]
   refine doN (wanted_no rfl rfl rfl (c := true) rfl (by decide)) ?_
   simp only [pS, pN, pA, pC, pZ]
   refine do_ rfl (.bool true) (ex_pick (b := true) rfl) ?_
   simp only [pS, pN, pA, pC, pZ]
   refine do_ rfl (.bool true) (ex_move _) ?_
   simp only [pS, pN, pA, pC, pZ]
   refine doN (wanted_no rfl rfl rfl (c := true) rfl (by decide)) ?_
   simp only [pS, pN, pA, pC, pZ]
   refine doN (wanted_no rfl rfl rfl (c := true) rfl (by decide)) ?_
   simp only [pS, pN, pA, pC, pZ]
   refine doN (wanted_no rfl rfl rfl (c := true) rfl (by decide)) ?_
   simp only [pS, pN, pA, pC, pZ]
   refine doN (wanted_no rfl rfl rfl (c := true) rfl (by decide)) ?_
   simp only [pS, pN, pA, pC, pZ]
   refine do_ rfl (.bool true) (ex_pick (b := true) rfl) ?_
   simp only [pS, pN, pA, pC, pZ]
   refine do_ rfl (.bool true) (ex_move _) ?_
   simp only [pS, pN, pA, pC, pZ]
   refine doN (wanted_no rfl rfl rfl (c := true) rfl (by decide)) ?_
   simp only [pS, pN, pA, pC, pZ]
   refine doN (wanted_no rfl rfl rfl (c := true) rfl (by decide)) ?_
   simp only [pS, pN, pA, pC, pZ]
   refine doN (wanted_no rfl rfl rfl (c := true) rfl (by decide)) ?_
   simp only [pS, pN, pA, pC, pZ]
   refine doN (wanted_no rfl rfl rfl (c := true) rfl (by decide)) ?_
   simp only [pS, pN, pA, pC, pZ]
   refine do_ rfl (.bool true) (ex_pick (b := true) rfl) ?_
   simp only [pS, pN, pA, pC, pZ]
   refine wl_nil (hK61 _ _ ?_)
   refine wp_cond_true rfl ?_
   refine wp_seq_k (fun K64 hK64 => region_wl ?_)
   refine do_ rfl (.int .i64 4) (ex_assign _) ?_
   simp only [pS, pN, pA, pC, pZ]
   refine wl_nil (hK64 _ _ ?_)
   refine wp_ret ?_
   (try simp only [Exit.then, Exit.inBlock, ↓reduceIte, Nat.reduceEqDiff])
   refine bodyPost_ret (v := (.int .i64 4)) ?_ rfl ?_
   ·exact res_t rfl rfl
   ·rw [wayB_bad hp (.inl hb1)] at hw
    rw [← hw]
    exact ⟨rfl, S59.gr.below⟩
 ·refine do_ rfl (.bool false) (ex_lss (m := ((i : Nat) : Int)) (n := ((p.steps.length : Nat) : Int)) (b := false) rfl rfl (decide_eq_false (by omega))) ?_
  simp only [pS, pN, pA, pC, pZ]
  refine wl_nil (hK36 _ _ ?_)
  refine wp_seq_k (fun K65 hK65 => ?_)
  refine wp_cond_false rfl ?_
  refine wp_exit ?_
  refine hK25 _ _ ?_
  refine wp_seq_k (fun K66 hK66 => region_wl ?_)
  refine do_ rfl (.int .i64 0) (ex_assign _) ?_
  simp only [pS, pN, pA, pC, pZ]
  refine wl_nil (hK66 _ _ ?_)
  refine wp_ret ?_
  (try simp only [Exit.then, Exit.inBlock, ↓reduceIte, Nat.reduceEqDiff])
  refine bodyPost_ret (v := (.int .i64 0)) ?_ rfl ?_
  ·exact res_t rfl rfl
  ·rw [List.drop_of_length_le (by omega)] at hw
   rw [← hw]
   exact ⟨rfl, S33.gr.below⟩
end Go.Proofs.YtcanckliggcllaaDoor
namespace Go.Proofs.YtcanckliggcllaaDoor
open Go.ChangeShapes Go.WideShapes Go.ChangeAt Go.RowKit
set_option maxRecDepth 100000
def roundsZ : List Int := [1, 32898, 9223372036854808714, 9223372039002292224, 32907, 2147483649, 9223372039002292353, 9223372036854808585, 138, 136, 2147516425, 2147483658, 2147516555, 9223372036854775947, 9223372036854808713, 9223372036854808579, 9223372036854808578, 9223372036854775936, 32778, 9223372039002259466, 9223372039002292353, 9223372036854808704, 2147483649, 9223372039002292232]
theorem gRounds : Tryd.prog.globalNamed "canopy/digest.rounds" = some 2 := by kernel_rfl
theorem gRoundsType : (Tryd.prog.globals[(2 : Nat)]?).map (·.type) = some 91 := by kernel_rfl
theorem gRoundsCells : Tryd.prog.cellsOf 91 = 24 := by kernel_rfl
theorem gRoundsOne : Tryd.prog.cellsOf 88 = 1 := by kernel_rfl
def goesZ : List Int := [10, 7, 11, 17, 18, 3, 5, 16, 8, 21, 24, 4, 15, 23, 19, 13, 12, 2, 20, 14, 22, 9, 6, 1]
theorem gGoes : Tryd.prog.globalNamed "canopy/digest.goes" = some 0 := by kernel_rfl
theorem gGoesType : (Tryd.prog.globals[(0 : Nat)]?).map (·.type) = some 109 := by kernel_rfl
theorem gGoesCells : Tryd.prog.cellsOf 109 = 24 := by kernel_rfl
theorem gGoesOne : Tryd.prog.cellsOf 3 = 1 := by kernel_rfl
def turnsZ : List Int := [1, 3, 6, 10, 15, 21, 28, 36, 45, 55, 2, 14, 27, 41, 56, 8, 25, 43, 62, 18, 39, 61, 20, 44]
theorem gTurns : Tryd.prog.globalNamed "canopy/digest.turns" = some 1 := by kernel_rfl
theorem gTurnsType : (Tryd.prog.globals[(1 : Nat)]?).map (·.type) = some 109 := by kernel_rfl
theorem gTurnsCells : Tryd.prog.cellsOf 109 = 24 := by kernel_rfl
theorem gTurnsOne : Tryd.prog.cellsOf 3 = 1 := by kernel_rfl
theorem goes_are : ∀ i, i < 24 → goesZ.getD i 0 = (goesN i : Int) := by decide +kernel
theorem turns_are : ∀ i, i < 24 → turnsZ.getD i 0 = (turnsN i : Int) := by decide +kernel
theorem rounds_are : ∀ i, i < 24 → roundsZ.getD i 0 = lane (roundB i) := by unfold lane; decide +kernel
theorem tab_at {W : World} {name : String} {k : IntKind} {zs : List Int} {g : Nat} (h : Lib.TabIs Tryd.prog W name k zs) (hg : Tryd.prog.globalNamed name = some g) {n : Nat} (hn : zs.length = n) {i : Nat} (hi : i < n) : W.cell? ⟨g, i, none⟩ = some (.int k (zs.getD i 0)) := by
  have hi' : i < zs.length := by omega
  have := h.cell hg i hi'
  exact this.trans (by simp [List.getD, hi'])
theorem dig_met {W : World} (h : laidMetH Tryd.prog [("canopy/digest.rounds", Rows.laid_canopy_digest_rounds), ("canopy/digest.goes", Rows.laid_canopy_digest_goes), ("canopy/digest.turns", Rows.laid_canopy_digest_turns)] W) : Tabs W := by
  have hr : Lib.TabIs Tryd.prog W "canopy/digest.rounds" .u64 roundsZ :=
    tabIs_at (l := [("canopy/digest.rounds", Rows.laid_canopy_digest_rounds), ("canopy/digest.goes", Rows.laid_canopy_digest_goes), ("canopy/digest.turns", Rows.laid_canopy_digest_turns)]) h 0 _ _ _ rfl gRounds gRoundsType Tryd.underlying91 Tryd.underlying88 gRoundsOne gRoundsCells
  have hg : Lib.TabIs Tryd.prog W "canopy/digest.goes" .i64 goesZ :=
    tabIs_at (l := [("canopy/digest.rounds", Rows.laid_canopy_digest_rounds), ("canopy/digest.goes", Rows.laid_canopy_digest_goes), ("canopy/digest.turns", Rows.laid_canopy_digest_turns)]) h 1 _ _ _ rfl gGoes gGoesType Tryd.underlying109 Tryd.underlying3 gGoesOne gGoesCells
  have ht : Lib.TabIs Tryd.prog W "canopy/digest.turns" .i64 turnsZ :=
    tabIs_at (l := [("canopy/digest.rounds", Rows.laid_canopy_digest_rounds), ("canopy/digest.goes", Rows.laid_canopy_digest_goes), ("canopy/digest.turns", Rows.laid_canopy_digest_turns)]) h 2 _ _ _ rfl gTurns gTurnsType Tryd.underlying109 Tryd.underlying3 gTurnsOne gTurnsCells
  refine ⟨fun i hi => ?_, fun i hi => ?_, fun i hi => ?_⟩
  · rw [tab_at hg gGoes (n := 24) rfl hi, goes_are i hi]
  · rw [tab_at ht gTurns (n := 24) rfl hi, turns_are i hi]
  · rw [tab_at hr gRounds (n := 24) rfl hi, rounds_are i hi]
def setCells (cs : Array Value) : Obj → Obj
  | .cells _ t frozen => .cells cs t frozen
  | o => o
noncomputable def digWorld (os : Os) : World :=
  { World.holding Tryd.prog os ⟨#[], #[], []⟩ with heap := (((World.holding Tryd.prog os ⟨#[], #[], []⟩).heap.modify 2 (setCells #[.int .u64 1, .int .u64 32898, .int .u64 9223372036854808714, .int .u64 9223372039002292224, .int .u64 32907, .int .u64 2147483649, .int .u64 9223372039002292353, .int .u64 9223372036854808585, .int .u64 138, .int .u64 136, .int .u64 2147516425, .int .u64 2147483658, .int .u64 2147516555, .int .u64 9223372036854775947, .int .u64 9223372036854808713, .int .u64 9223372036854808579, .int .u64 9223372036854808578, .int .u64 9223372036854775936, .int .u64 32778, .int .u64 9223372039002259466, .int .u64 9223372039002292353, .int .u64 9223372036854808704, .int .u64 2147483649, .int .u64 9223372039002292232])).modify 0 (setCells #[.int .i64 10, .int .i64 7, .int .i64 11, .int .i64 17, .int .i64 18, .int .i64 3, .int .i64 5, .int .i64 16, .int .i64 8, .int .i64 21, .int .i64 24, .int .i64 4, .int .i64 15, .int .i64 23, .int .i64 19, .int .i64 13, .int .i64 12, .int .i64 2, .int .i64 20, .int .i64 14, .int .i64 22, .int .i64 9, .int .i64 6, .int .i64 1])).modify 1 (setCells #[.int .i64 1, .int .i64 3, .int .i64 6, .int .i64 10, .int .i64 15, .int .i64 21, .int .i64 28, .int .i64 36, .int .i64 45, .int .i64 55, .int .i64 2, .int .i64 14, .int .i64 27, .int .i64 41, .int .i64 56, .int .i64 8, .int .i64 25, .int .i64 43, .int .i64 62, .int .i64 18, .int .i64 39, .int .i64 61, .int .i64 20, .int .i64 44]) }
end Go.Proofs.YtcanckliggcllaaDoor
