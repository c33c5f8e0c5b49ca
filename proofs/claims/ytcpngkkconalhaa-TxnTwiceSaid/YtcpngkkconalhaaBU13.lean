/- Rules, plain laws and walks: X6 K8 S10 -/
import Derived.Test.YtcpngkkconalhaaBU12
import Derived.Test.YtcpngkkconalhaaBU8
import Derived.OrdersHeld
namespace Go.Proofs.Ytcpngkkconalhaa
open Go.RowKit
set_option maxRecDepth 100000
set_option linter.unusedVariables false
set_option linter.unusedSimpArgs false
set_option maxHeartbeats 8000000 in
theorem getFNil_spec (F : Fz) (w : World) (v z : Value) (l : Forest) (k : By) (hs : Sat w F) (hv : Tns F v l) (hk : Bs F z k) (ok1 : ForestOk 60 l) :
    Calls Try.prog 30 #[v, .slice none 0 0, z] w (Gives w F (GetR none 1)) := by
 obtain ⟨a, c, rfl, hc1, hc2⟩ := Sl.shape hv
 obtain ⟨a3, c3, rfl, _⟩ := hk.shape
 have S := St.start hs
 go_enter Try.func30, Try.ntmps30
 refine wp_seq_k (fun K1 hK1 => region_wl ?_)
 refine stNew S (v := fun n => .pointer (some ⟨n, 0, none⟩)) rfl (ex_alloc (zero_38 _)) (fun n2 w3 S4 => ?_)
 simp only [pS, pN, pA, pC, pZ]
 have S4 : St w F w3 F [⟨n2, [(.bool false), (.slice none 0 0)], 38⟩] [] := S4
 refine do_ rfl (.int .i64 0) (ex_assign _) ?_
 simp only [pS, pN, pA, pC, pZ]
 refine wl_nil (hK1 _ _ ?_)
 refine wp_seq_k (fun K5 hK5 => ?_)
 refine wp_seq_k (fun K6 hK6 => region_wl ?_)
 refine do_ rfl (.slice a l.length c) (ex_move _) ?_
 simp only [pS, pN, pA, pC, pZ]
 refine do_ rfl (.slice none 0 0) (ex_move _) ?_
 simp only [pS, pN, pA, pC, pZ]
 refine stTells (v := (.int .i64 1)) S4 rfl (ex_fn (vs := #[(.slice a l.length c), (.slice none 0 0)]) (map2 rfl rfl) rfl (ent_63 _ _)) (checkedOk_spec _ _ _ _ l [] (S4).sat hv (Bs.nil _) ok1 rfl) (fun w7 S8 => ?_)
 simp only [pS, pN, pA, pC, pZ]
 refine do_ rfl (.int .i64 1) (ex_assign _) ?_
 simp only [pS, pN, pA, pC, pZ]
 refine wl_nil (hK6 _ _ ?_)
 refine wp_seq_k (fun K9 hK9 => region_wl ?_)
 refine do_ rfl (.int .i64 1) (ex_move _) ?_
 simp only [pS, pN, pA, pC, pZ]
 refine do_ rfl (.bool true) (ex_neq (b := true) rfl rfl (by decide)) ?_
 simp only [pS, pN, pA, pC, pZ]
 refine wl_nil (hK9 _ _ ?_)
 refine wp_cond_true rfl ?_
 refine wp_seq_k (fun K10 hK10 => region_wl ?_)
 refine do_ rfl (.agg #[(.bool false), (.slice none 0 0)]) (ex_build (ps := #[]) (bmap0) (by kernel_rfl)) ?_
 simp only [pS, pN, pA, pC, pZ]
 refine do_ rfl (.int .i64 1) (ex_move _) ?_
 simp only [pS, pN, pA, pC, pZ]
 refine stStore (i := 0) (v := (.agg #[(.bool false), (.slice none 0 0)])) S8 rfl rfl rfl rfl (size_38) (allc2 rfl rfl) (Nat.le_of_ble_eq_true rfl) (fun w11 S12 => ?_)
 simp only [pS, pN, pA, pC, pZ]
 have S12 : St w F w11 F [⟨n2, [(.bool false), (.slice none 0 0)], 38⟩] [] := S12
 refine do_ rfl (.int .i64 1) (ex_assign _) ?_
 simp only [pS, pN, pA, pC, pZ]
 refine wl_nil (hK10 _ _ ?_)
 refine wp_ret ?_
 (try simp only [Exit.then, Exit.inBlock, ↓reduceIte, Nat.reduceEqDiff])
 refine bodyPost_ret (v := (.tuple #[(.agg #[(.bool false), (.slice none 0 0)]), (.int .i64 1)])) ?_ rfl ?_
 ·exact res_ct rfl ⟨_, rfl, loadN (cs := [(.bool false), (.slice none 0 0)]) Try.underlying38 rfl (size_38) (St.range S12 (i := 0) rfl 0 [(.bool false), (.slice none 0 0)] (sub_range 0 rfl))⟩ rfl
 ·exact ⟨_, _, rfl, S12.gr, _, rfl, none, 0, rfl, Bs.nil _⟩
set_option maxHeartbeats 8000000 in
theorem rangeFFrom_spec (F : Fz) (w : World) (v u y : Value) (l : Forest) (n j : By) (hs : Sat w F) (hv : Tns F v l) (hn : Bs F u n) (hj : Bs F y j) (ok1 : ForestOk 60 l) (hnn : 1 ≤ n.length ∧ n.length ≤ 8) :
    Calls Try.prog 29 #[v, u, .slice none 0 0, y] w (Gives w F (PrsE [] 1)) := by
 have hn0 := nameN_ok hnn.1 hnn.2
 have hl8 := ok1.len
 obtain ⟨a, c, rfl, hc1, hc2⟩ := Sl.shape hv
 obtain ⟨a2, c2, rfl, _⟩ := hn.shape
 obtain ⟨a4, c4, rfl, _⟩ := hj.shape
 have S := St.start hs
 go_enter Try.func29, Try.ntmps29
 refine wp_seq_k (fun K1 hK1 => region_wl ?_)
 refine do_ rfl (.slice none 0 0) (ex_assign _) ?_
 simp only [pS, pN, pA, pC, pZ]
 refine do_ rfl (.int .i64 0) (ex_assign _) ?_
 simp only [pS, pN, pA, pC, pZ]
 refine wl_nil (hK1 _ _ ?_)
 refine wp_seq_k (fun K2 hK2 => ?_)
 refine wp_seq_k (fun K3 hK3 => region_wl ?_)
 refine do_ rfl (.slice a l.length c) (ex_move _) ?_
 simp only [pS, pN, pA, pC, pZ]
 refine do_ rfl (.slice a2 n.length c2) (ex_move _) ?_
 simp only [pS, pN, pA, pC, pZ]
 refine stTells (v := (.int .i64 0)) S rfl (ex_fn (vs := #[(.slice a l.length c), (.slice a2 n.length c2)]) (map2 rfl rfl) rfl (ent_63 _ _)) (checkedOk_spec _ _ _ _ l n (S).sat hv hn ok1 hn0) (fun w4 S5 => ?_)
 simp only [pS, pN, pA, pC, pZ]
 refine do_ rfl (.int .i64 0) (ex_assign _) ?_
 simp only [pS, pN, pA, pC, pZ]
 refine wl_nil (hK3 _ _ ?_)
 refine wp_seq_k (fun K6 hK6 => region_wl ?_)
 refine do_ rfl (.int .i64 0) (ex_move _) ?_
 simp only [pS, pN, pA, pC, pZ]
 refine do_ rfl (.bool false) (ex_neq (b := false) rfl rfl (by decide)) ?_
 simp only [pS, pN, pA, pC, pZ]
 refine wl_nil (hK6 _ _ ?_)
 refine wp_cond_false rfl ?_
 refine wp_skip ?_
 refine hK2 _ _ ?_
 refine wp_seq_k (fun K7 hK7 => region_wl ?_)
 refine do_ rfl (.slice a l.length c) (ex_move _) ?_
 simp only [pS, pN, pA, pC, pZ]
 refine do_ rfl (.slice a2 n.length c2) (ex_move _) ?_
 simp only [pS, pN, pA, pC, pZ]
 refine stTree S5 rfl (ex_fn (vs := #[(.slice a l.length c), (.slice a2 n.length c2)]) (map2 rfl rfl) rfl (ent_65 _ _)) (pairsT_spec _ _ _ _ l n (S5).sat hv hn ok1.rise (by omega)) ?_
 intro x8 w9 S10 hp11
 obtain ⟨a12, c13, rfl, _⟩ := Sl.shape hp11
 simp only [pS, pN, pA, pC, pZ]
 have S10 : St w F w9 F [] [] := S10
 refine do_ rfl (.slice none 0 0) (ex_move _) ?_
 simp only [pS, pN, pA, pC, pZ]
 refine do_ rfl (.slice a4 j.length c4) (ex_move _) ?_
 simp only [pS, pN, pA, pC, pZ]
 refine stGives S10 rfl (ex_fn (vs := #[(.slice a12 (treeF l n).length c13), (.slice none 0 0), (.slice a4 j.length c4)]) (map3 rfl rfl rfl) rfl (ent_64 _ _)) (rangeBad_spec _ _ _ _ _ (treeF l n) [] j (S10).sat hp11 (Bs.nil _) hj (TreeOk.mono (show TreeOk 60 (treeF l n) from treeF_ok ok1 n) (by omega)) rfl) ?_
 intro v19 w14 F16 S15 le17 R18
 obtain ⟨_, rfl, r22⟩ := R18
 obtain ⟨a20, c21, rfl, h23, h24⟩ := Sl.shape r22
 unfold maxLen at h24
 simp only [pS, pN, pA, pC, pZ]
 refine do_ rfl (.slice a20 ([] : List Pr).length c21) (ex_extract rfl rfl) ?_
 simp only [pS, pN, pA, pC, pZ]
 refine do_ rfl (.int .i64 1) (ex_extract rfl rfl) ?_
 simp only [pS, pN, pA, pC, pZ]
 refine do_ rfl (.slice a20 ([] : List Pr).length c21) (ex_assign _) ?_
 simp only [pS, pN, pA, pC, pZ]
 refine do_ rfl (.int .i64 1) (ex_assign _) ?_
 simp only [pS, pN, pA, pC, pZ]
 refine wl_nil (hK7 _ _ ?_)
 refine wp_ret ?_
 (try simp only [Exit.then, Exit.inBlock, ↓reduceIte, Nat.reduceEqDiff])
 refine bodyPost_ret (v := (.tuple #[(.slice a20 ([] : List Pr).length c21), (.int .i64 1)])) ?_ rfl ?_
 ·exact res_tt rfl rfl rfl
 ·exact ⟨_, _, rfl, S15.gr, _, rfl, r22⟩
def LookR (o : Option By) (b : Bool) (e : Int) (F : Fz) (u : Value) : Prop := ∃ x, u = .tuple #[x, .bool b, .int .i64 e] ∧ FndV F x o
def FdV (F : Fz) (u : Value) (b : Bool) (l : By) : Prop := ∃ a c, u = .agg #[.bool b, .slice a l.length c] ∧ Bs F (.slice a l.length c) l
theorem FdV.dropF {w : World} {F : Fz} {n : Nat} {cs : List Value} {T : TypeId} (hs : Sat w F) (hb : w.heap[n]? = some (.cells cs.toArray T (0, 0))) (hc : ∀ u ∈ cs, ∀ x, u ≠ bv x) {v : Value} {b : Bool} {l : By} (h : FdV F v b l) : FdV (Proofs.Ytcpngkkconalhaa.dropF F n) v b l := by
  obtain ⟨a, c, rfl, h1⟩ := h
  exact ⟨a, c, rfl, h1.dropF hs hb hc⟩
theorem FdV.fnd {F : Fz} {u : Value} {p : Wr} (h : FdV F u (!p.gone) p.value) (hp : WrOk p) : FndV F u (if p.gone then none else some p.value) := by
  obtain ⟨a, c, rfl, h1⟩ := h
  cases hg : p.gone with
  | true =>
    have := hp.gone hg
    rw [this] at h1
    refine ⟨a, c, by rw [this]; rfl, h1⟩
  | false => exact ⟨a, c, rfl, h1⟩
theorem find_hit {α : Type} {l : List α} {g : α → Bool} {k : Nat} {p : α} (hp : l[k]? = some p) (h : (l.take k).any g = false) (hg : g p = true) : l.find? g = some p := by
  obtain ⟨hk, rfl⟩ := List.getElem?_eq_some_iff.1 hp
  rw [List.find?_eq_some_iff_getElem]
  exact ⟨hg, k, hk, rfl, fun j hj => by rw [any_take.1 h j _ hj (List.getElem?_eq_getElem (by omega))]; rfl⟩
theorem find_no {α : Type} {l : List α} {g : α → Bool} (h : l.any g = false) : l.find? g = none := by
  rw [List.find?_eq_none]
  intro x hx
  have := List.any_eq_false.1 h x hx
  simpa using this
set_option maxHeartbeats 8000000 in
theorem look_spec (F : Fz) (w : World) (u v y z : Value) (l : Forest) (t : Tx) (n k : By) (hs : Sat w F) (hl : Tns F u l) (hv : TxV F v t) (hn : Bs F y n) (hk : Bs F z k) (hf : ForestOk 60 l) (ht : TxOk t) (hnn : 1 ≤ n.length ∧ n.length ≤ 8) (hkk : 1 ≤ k.length ∧ k.length ≤ 16) :
    Calls Try.prog 48 #[u, v, y, z] w (Gives w F (LookR (lookX l t n k).1 (lookX l t n k).2 0)) := by
 obtain ⟨a, c, rfl, hc1, hc2⟩ := Sl.shape hl
 unfold maxLen at hc2
 obtain ⟨x0, y0, x1, y1, rfl, h0, h1⟩ := hv
 obtain ⟨_, _, e0, q0, q1⟩ := Sl.shape h0
 obtain ⟨_, _, e1, q2, q3⟩ := Sl.shape h1
 injection e0 with _ _ e0
 injection e1 with _ _ e1
 subst e0 e1
 unfold maxLen at q1 q3
 obtain ⟨a2, c2, rfl, _⟩ := hn.shape
 obtain ⟨a3, c3, rfl, _⟩ := hk.shape
 have hb0 := bothE_ok.2 ⟨hf, ht⟩
 have hbw := fun r hr => (ht.writes r hr).small
 have S := St.start hs
 go_enter Try.func48, Try.ntmps48
 refine wp_seq_k (fun K1 hK1 => region_wl ?_)
 refine stNew S (v := fun n => .pointer (some ⟨n, 0, none⟩)) rfl (ex_box (v := (.agg #[(.int .i64 t.start), (.slice x0 t.reads.length y0), (.slice x1 t.writes.length y1)])) rfl) (fun n2 w3 S4 => ?_)
 simp only [pS, pN, pA, pC, pZ]
 have S4 : St w F w3 F [⟨n2, [(.int .i64 t.start), (.slice x0 t.reads.length y0), (.slice x1 t.writes.length y1)], 75⟩] [] := S4
 refine stNew S4 (v := fun n => .pointer (some ⟨n, 0, none⟩)) rfl (ex_alloc (zero_38 _)) (fun n5 w6 S7 => ?_)
 simp only [pS, pN, pA, pC, pZ]
 have S7 : St w F w6 F [⟨n5, [(.bool false), (.slice none 0 0)], 38⟩, ⟨n2, [(.int .i64 t.start), (.slice x0 t.reads.length y0), (.slice x1 t.writes.length y1)], 75⟩] [] := S7
 refine do_ rfl (.bool false) (ex_assign _) ?_
 simp only [pS, pN, pA, pC, pZ]
 refine do_ rfl (.int .i64 0) (ex_assign _) ?_
 simp only [pS, pN, pA, pC, pZ]
 refine wl_nil (hK1 _ _ ?_)
 refine wp_seq_k (fun K8 hK8 => ?_)
 refine wp_seq_k (fun K9 hK9 => region_wl ?_)
 refine do_ rfl (.slice a l.length c) (ex_move _) ?_
 simp only [pS, pN, pA, pC, pZ]
 refine do_ rfl (.agg #[(.int .i64 t.start), (.slice x0 t.reads.length y0), (.slice x1 t.writes.length y1)]) (ex_load rfl (loadN (cs := [(.int .i64 t.start), (.slice x0 t.reads.length y0), (.slice x1 t.writes.length y1)]) Try.underlying75 rfl (size_75) (St.range S7 (i := 1) rfl 0 [(.int .i64 t.start), (.slice x0 t.reads.length y0), (.slice x1 t.writes.length y1)] (sub_range 0 rfl)))) ?_
 simp only [pS, pN, pA, pC, pZ]
 refine stTells (v := (.int .i64 (bothE l t))) S7 rfl (ex_fn (vs := #[(.slice a l.length c), (.agg #[(.int .i64 t.start), (.slice x0 t.reads.length y0), (.slice x1 t.writes.length y1)])]) (map2 rfl rfl) rfl (ent_86 _ _)) (both_spec _ _ _ _ l t (S7).sat hl ⟨_, _, _, _, rfl, h0, h1⟩ hbw) (fun w10 S11 => ?_)
 simp only [pS, pN, pA, pC, pZ]
 refine do_ rfl (.int .i64 (bothE l t)) (ex_assign _) ?_
 simp only [pS, pN, pA, pC, pZ]
 refine wl_nil (hK9 _ _ ?_)
 refine wp_seq_k (fun K12 hK12 => region_wl ?_)
 refine do_ rfl (.int .i64 (bothE l t)) (ex_move _) ?_
 simp only [pS, pN, pA, pC, pZ]
 refine do_ rfl (.bool false) (ex_neq (m := (bothE l t)) (n := (0 : Int)) (b := false) rfl rfl (bne_eq_false_iff_eq.2 (hb0))) ?_
 simp only [pS, pN, pA, pC, pZ]
 refine wl_nil (hK12 _ _ ?_)
 refine wp_cond_false rfl ?_
 refine wp_skip ?_
 refine hK8 _ _ ?_
 refine wp_seq_k (fun K13 hK13 => region_wl ?_)
 refine do_ rfl (.slice a l.length c) (ex_move _) ?_
 simp only [pS, pN, pA, pC, pZ]
 refine do_ rfl (.slice a2 n.length c2) (ex_move _) ?_
 simp only [pS, pN, pA, pC, pZ]
 refine do_ rfl (.slice a3 k.length c3) (ex_move _) ?_
 simp only [pS, pN, pA, pC, pZ]
 refine stGives S11 rfl (ex_fn (vs := #[(.slice a l.length c), (.slice a2 n.length c2), (.slice a3 k.length c3)]) (map3 rfl rfl rfl) rfl (ent_30 _ _)) (getF_spec _ _ _ _ _ l n k (S11).sat hl hn hk hf hnn hkk) ?_
 intro v19 w14 F16 S15 le17 R18
 obtain ⟨_, rfl, a20, c21, rfl, r22⟩ := R18
 have r22 : Bs _ (.slice a20 ((getF l n k).getD []).length c21) ((getF l n k).getD []) := r22
 simp only [pS, pN, pA, pC, pZ]
 refine do_ rfl (.tuple #[(.agg #[(.bool (getF l n k).isSome), (.slice a20 ((getF l n k).getD []).length c21)]), (.int .i64 0)]) (ex_move _) ?_
 simp only [pS, pN, pA, pC, pZ]
 refine do_ rfl (.agg #[(.bool (getF l n k).isSome), (.slice a20 ((getF l n k).getD []).length c21)]) (ex_extract rfl rfl) ?_
 simp only [pS, pN, pA, pC, pZ]
 refine do_ rfl (.int .i64 0) (ex_extract rfl rfl) ?_
 simp only [pS, pN, pA, pC, pZ]
 refine stNew S15 (v := fun n => .pointer (some ⟨n, 0, none⟩)) rfl (ex_alloc (zero_38 _)) (fun n23 w24 S25 => ?_)
 simp only [pS, pN, pA, pC, pZ]
 have S25 : St w F w24 F16 [⟨n23, [(.bool false), (.slice none 0 0)], 38⟩, ⟨n5, [(.bool false), (.slice none 0 0)], 38⟩, ⟨n2, [(.int .i64 t.start), (.slice x0 t.reads.length y0), (.slice x1 t.writes.length y1)], 75⟩] [] := S25
 refine stStore (i := 0) (v := (.agg #[(.bool (getF l n k).isSome), (.slice a20 ((getF l n k).getD []).length c21)])) S25 rfl rfl rfl rfl (size_38) (allc2 rfl rfl) (Nat.le_of_ble_eq_true rfl) (fun w26 S27 => ?_)
 simp only [pS, pN, pA, pC, pZ]
 have S27 : St w F w26 F16 [⟨n23, [(.bool (getF l n k).isSome), (.slice a20 ((getF l n k).getD []).length c21)], 38⟩, ⟨n5, [(.bool false), (.slice none 0 0)], 38⟩, ⟨n2, [(.int .i64 t.start), (.slice x0 t.reads.length y0), (.slice x1 t.writes.length y1)], 75⟩] [] := S27
 refine do_ rfl (.int .i64 0) (ex_assign _) ?_
 simp only [pS, pN, pA, pC, pZ]
 refine wl_nil (hK13 _ _ ?_)
 refine wp_seq_k (fun K28 hK28 => ?_)
 refine wp_seq_k (fun K29 hK29 => region_wl ?_)
 refine do_ rfl (.int .i64 0) (ex_move _) ?_
 simp only [pS, pN, pA, pC, pZ]
 refine do_ rfl (.bool false) (ex_neq (b := false) rfl rfl (by decide)) ?_
 simp only [pS, pN, pA, pC, pZ]
 refine wl_nil (hK29 _ _ ?_)
 refine wp_cond_false rfl ?_
 refine wp_skip ?_
 refine hK28 _ _ ?_
 refine wp_seq_k (fun K30 hK30 => ?_)
 refine wp_seq_k (fun K31 hK31 => region_wl ?_)
 refine do_ rfl (.pointer (some ⟨n2, 2, none⟩)) (ex_field (q := ⟨n2, 2, none⟩) rfl (fa_75_2 _ _)) ?_
 simp only [pS, pN, pA, pC, pZ]
 refine do_ rfl (.slice x1 t.writes.length y1) (ex_load rfl (load1 (nagg_44 _) (St.cell S27 (i := 2) rfl rfl))) ?_
 simp only [pS, pN, pA, pC, pZ]
 refine do_ rfl (.int .i64 ((t.writes.length : Nat) : Int)) (ex_len Try.underlying44 rfl) ?_
 simp only [pS, pN, pA, pC, pZ]
 refine do_ rfl (.int .i64 0) (ex_move _) ?_
 simp only [pS, pN, pA, pC, pZ]
 refine wl_nil (hK31 _ _ ?_)
 refine wp_block ?_
 refine wp_loop_g (fun mm aa w34 => ∃ (i : Nat) (F32 : Fz) (u33 : Nat → Value), mm = t.writes.length - i ∧ u33 = slots aa ∧ aa = ⟨#[(.slice a l.length c), (.agg #[(.int .i64 t.start), (.slice x0 t.reads.length y0), (.slice x1 t.writes.length y1)]), (.slice a2 n.length c2), (.slice a3 k.length c3), undef, (.pointer (some ⟨n2, 0, none⟩)), undef, undef, (.pointer (some ⟨n5, 0, none⟩)), (u33 9), (u33 10), (.int .i64 (bothE l t)), (.pointer (some ⟨n23, 0, none⟩)), (.int .i64 0), undef, (u33 15), (.slice a l.length c), (.agg #[(.int .i64 t.start), (.slice x0 t.reads.length y0), (.slice x1 t.writes.length y1)]), (.int .i64 (bothE l t)), (.int .i64 (bothE l t)), (.bool false), undef, undef, (.tuple #[(.agg #[(.bool (getF l n k).isSome), (.slice a20 ((getF l n k).getD []).length c21)]), (.int .i64 0)]), (.slice a l.length c), (.slice a2 n.length c2), (.slice a3 k.length c3), (.tuple #[(.agg #[(.bool (getF l n k).isSome), (.slice a20 ((getF l n k).getD []).length c21)]), (.int .i64 0)]), (.agg #[(.bool (getF l n k).isSome), (.slice a20 ((getF l n k).getD []).length c21)]), (.int .i64 0), (.int .i64 0), (.bool false), undef, undef, (.pointer (some ⟨n2, 2, none⟩)), (.slice x1 t.writes.length y1), (.int .i64 ((t.writes.length : Nat) : Int)), (.int .i64 ((i : Nat) : Int)), (u33 38), (u33 39), (u33 40), (u33 41), (u33 42), (u33 43), (u33 44), (u33 45), (u33 46), (u33 47), (u33 48), (u33 49), (u33 50), (u33 51), (u33 52), (u33 53), undef], []⟩ ∧ St w F w34 F32 [⟨n23, [(.bool (getF l n k).isSome), (.slice a20 ((getF l n k).getD []).length c21)], 38⟩, ⟨n5, [(.bool false), (.slice none 0 0)], 38⟩, ⟨n2, [(.int .i64 t.start), (.slice x0 t.reads.length y0), (.slice x1 t.writes.length y1)], 75⟩] [] ∧ Le F16 F32 ∧ (i ≤ t.writes.length) ∧ ((t.writes.take i).any (fun w : Wr => samePl w (⟨n, k, false, ([] : By)⟩ : Wr)) = false)) _ ⟨0, F16, _, rfl, rfl, rfl, S27, Le.refl _, (by omega), rfl⟩ ?_
 rintro m35 a36 w37 ⟨i, F32, u33, rfl, -, rfl, S38, le39, hi, hno⟩ K40 hK40
 refine wp_seq_k (fun K41 hK41 => region_wl ?_)
 by_cases hc38 : i < t.writes.length
 ·refine do_ rfl (.bool true) (ex_lss (m := ((i : Nat) : Int)) (n := ((t.writes.length : Nat) : Int)) (b := true) rfl rfl (decide_eq_true (by omega))) ?_
  simp only [pS, pN, pA, pC, pZ]
  refine wl_nil (hK41 _ _ ?_)
  refine wp_seq_k (fun K42 hK42 => ?_)
  refine wp_cond_true rfl ?_
  refine wp_skip ?_
  refine hK42 _ _ ?_
  refine wp_seq_k (fun K43 hK43 => ?_)
  refine wp_block ?_
  refine wp_seq_k (fun K44 hK44 => ?_)
  obtain ⟨p, hp⟩ : ∃ p, t.writes[i]? = some p := ⟨t.writes[i], List.getElem?_eq_getElem hc38⟩
  have hpo := ht.writes p (List.mem_of_getElem? hp)
  have hps := hpo.small
  obtain ⟨b45, o46, ha47, xa49, xc50, xa53, xc54, xa58, xc59, c48, c52, c56, c57, r51, r55, r60⟩ := Wrs.get (h1.mono (le17.trans le39)) hp
  refine region_wl ?_
  refine do_ rfl (.pointer (some ⟨b45, o46 + i * 4, none⟩)) (ex_at (i := i) (sz := 4) Try.underlying44 (sizeof_27 _) rfl ha47 rfl (by omega) rfl) ?_
  simp only [pS, pN, pA, pC, pZ]
  refine do_ rfl (.agg #[(.slice xa49 p.name.length xc50), (.slice xa53 p.key.length xc54), (.bool p.gone), (.slice xa58 p.value.length xc59)]) (ex_load rfl (loadN (cs := [(.slice xa49 p.name.length xc50), (.slice xa53 p.key.length xc54), (.bool p.gone), (.slice xa58 p.value.length xc59)]) Try.underlying27 rfl (size_27) (range4 (St.fz S38 c48) (St.fz S38 c52) (St.fz S38 c56) (St.fz S38 c57)))) ?_
  simp only [pS, pN, pA, pC, pZ]
  refine stNew S38 (v := fun n => .pointer (some ⟨n, 0, none⟩)) rfl (ex_alloc (zero_27 _)) (fun n61 w62 S63 => ?_)
  simp only [pS, pN, pA, pC, pZ]
  have S63 : St w F w62 F32 [⟨n61, [(.slice none 0 0), (.slice none 0 0), (.bool false), (.slice none 0 0)], 27⟩, ⟨n23, [(.bool (getF l n k).isSome), (.slice a20 ((getF l n k).getD []).length c21)], 38⟩, ⟨n5, [(.bool false), (.slice none 0 0)], 38⟩, ⟨n2, [(.int .i64 t.start), (.slice x0 t.reads.length y0), (.slice x1 t.writes.length y1)], 75⟩] [] := S63
  refine stStore (i := 0) (v := (.agg #[(.slice xa49 p.name.length xc50), (.slice xa53 p.key.length xc54), (.bool p.gone), (.slice xa58 p.value.length xc59)])) S63 rfl rfl rfl rfl (size_27) (allc4 rfl rfl rfl rfl) (Nat.le_of_ble_eq_true rfl) (fun w64 S65 => ?_)
  simp only [pS, pN, pA, pC, pZ]
  have S65 : St w F w64 F32 [⟨n61, [(.slice xa49 p.name.length xc50), (.slice xa53 p.key.length xc54), (.bool p.gone), (.slice xa58 p.value.length xc59)], 27⟩, ⟨n23, [(.bool (getF l n k).isSome), (.slice a20 ((getF l n k).getD []).length c21)], 38⟩, ⟨n5, [(.bool false), (.slice none 0 0)], 38⟩, ⟨n2, [(.int .i64 t.start), (.slice x0 t.reads.length y0), (.slice x1 t.writes.length y1)], 75⟩] [] := S65
  refine wl_nil (hK44 _ _ ?_)
  refine wp_seq_k (fun K66 hK66 => region_wl ?_)
  refine do_ rfl (.agg #[(.slice xa49 p.name.length xc50), (.slice xa53 p.key.length xc54), (.bool p.gone), (.slice xa58 p.value.length xc59)]) (ex_load rfl (loadN (cs := [(.slice xa49 p.name.length xc50), (.slice xa53 p.key.length xc54), (.bool p.gone), (.slice xa58 p.value.length xc59)]) Try.underlying27 rfl (size_27) (St.range S65 (i := 0) rfl 0 [(.slice xa49 p.name.length xc50), (.slice xa53 p.key.length xc54), (.bool p.gone), (.slice xa58 p.value.length xc59)] (sub_range 0 rfl)))) ?_
  simp only [pS, pN, pA, pC, pZ]
  refine do_ rfl (.slice a2 n.length c2) (ex_move _) ?_
  simp only [pS, pN, pA, pC, pZ]
  refine do_ rfl (.slice a3 k.length c3) (ex_move _) ?_
  simp only [pS, pN, pA, pC, pZ]
  refine do_ rfl (.agg #[(.slice a2 n.length c2), (.slice a3 k.length c3), (.bool false), (.slice none 0 0)]) (ex_build (ps := #[(0, (.slice a2 n.length c2)), (1, (.slice a3 k.length c3))]) (bmap2 rfl rfl) (by kernel_rfl)) ?_
  simp only [pS, pN, pA, pC, pZ]
  refine stTells (v := (.bool (samePl p (⟨n, k, false, ([] : By)⟩ : Wr)))) S65 rfl (ex_fn (vs := #[(.agg #[(.slice xa49 p.name.length xc50), (.slice xa53 p.key.length xc54), (.bool p.gone), (.slice xa58 p.value.length xc59)]), (.agg #[(.slice a2 n.length c2), (.slice a3 k.length c3), (.bool false), (.slice none 0 0)])]) (map2 rfl rfl) rfl (ent_78 _ _)) (samePlace_spec _ _ _ _ p (⟨n, k, false, ([] : By)⟩ : Wr) (S65).sat ⟨_, _, _, _, _, _, rfl, r51, r55, r60⟩ ⟨_, _, _, _, _, _, rfl, (hn.mono (le17.trans le39)), (hk.mono (le17.trans le39)), (Bs.nil _)⟩) (fun w67 S68 => ?_)
  simp only [pS, pN, pA, pC, pZ]
  refine wl_nil (hK66 _ _ ?_)
  refine wp_cond_split rfl (fun hc69 => ?_) (fun hc69 => ?_)
  ·refine wp_seq_k (fun K70 hK70 => ?_)
   refine region_gw F32 6 [(5, .made (fun F' u => Bs F' u p.value))] (by kernel_rfl) (by kernel_rfl) ?_
   simp only [List.take_succ_cons, List.take_zero]
   refine gw_pure rfl rfl (.pointer (some ⟨n61, 2, none⟩)) (fun w71 hCw71 => pureAt_of (ex_field (q := ⟨n61, 2, none⟩) rfl (fa_27_2 _ _))) ?_
   simp only [pS, pN, pA, pC, pZ]
   refine gw_pure rfl rfl (.bool p.gone) (fun w71 hCw71 => pureAt_of (ex_load rfl (load1 (nagg_4 _) (St.cell (St.tells S68 hCw71) (i := 0) rfl rfl)))) ?_
   simp only [pS, pN, pA, pC, pZ]
   refine gw_pure rfl rfl (.bool (!p.gone)) (fun w71 hCw71 => pureAt_of (ex_not rfl rfl)) ?_
   simp only [pS, pN, pA, pC, pZ]
   refine gw_pure rfl rfl (.pointer (some ⟨n61, 3, none⟩)) (fun w71 hCw71 => pureAt_of (ex_field (q := ⟨n61, 3, none⟩) rfl (fa_27_3 _ _))) ?_
   simp only [pS, pN, pA, pC, pZ]
   refine gw_pure rfl rfl (.slice xa58 p.value.length xc59) (fun w71 hCw71 => pureAt_of (ex_load rfl (load1 (nagg_25 _) (St.cell (St.tells S68 hCw71) (i := 0) rfl rfl)))) ?_
   simp only [pS, pN, pA, pC, pZ]
   refine gw_rel rfl rfl (fun w71 hCw71 hF => does_call (ex_fn (vs := #[(.slice xa58 p.value.length xc59)]) (map1 rfl) rfl (ent_60 _ _)) (call_made S68.sat hCw71 (clone_spec _ _ _ p.value ((St.tells S68 hCw71)).sat r60 (by omega)))) (fun v72 => ?_)
   simp only [pS, pN, pA, pC, pZ]
   refine gw_nil ?_
   intro w73 hC75 hF76
   obtain ⟨F77, g78, R79⟩ := hF76.get 5 rfl rfl
   have S74 := St.gives S68 g78
   have le81 : Le _ _ := g78.le S68.sat
   have R82 := R79
   generalize F77 = F80 at *
   obtain ⟨xa83, xc84, rfl, _⟩ := R82.shape
   clear hF76
   simp only [List.drop_succ_cons, List.drop_zero]
   refine do_ rfl (.agg #[(.bool (!p.gone)), (.slice xa83 p.value.length xc84)]) (ex_build (ps := #[(0, (.bool (!p.gone))), (1, (.slice xa83 p.value.length xc84))]) (bmap2 rfl rfl) (by kernel_rfl)) ?_
   simp only [pS, pN, pA, pC, pZ]
   refine stStore (i := 2) (v := (.agg #[(.bool (!p.gone)), (.slice xa83 p.value.length xc84)])) S74 rfl rfl rfl rfl (size_38) (allc2 rfl rfl) (Nat.le_of_ble_eq_true rfl) (fun w85 S86 => ?_)
   simp only [pS, pN, pA, pC, pZ]
   have S86 : St w F w85 F80 [⟨n61, [(.slice xa49 p.name.length xc50), (.slice xa53 p.key.length xc54), (.bool p.gone), (.slice xa58 p.value.length xc59)], 27⟩, ⟨n23, [(.bool (getF l n k).isSome), (.slice a20 ((getF l n k).getD []).length c21)], 38⟩, ⟨n5, [(.bool (!p.gone)), (.slice xa83 p.value.length xc84)], 38⟩, ⟨n2, [(.int .i64 t.start), (.slice x0 t.reads.length y0), (.slice x1 t.writes.length y1)], 75⟩] [] := S86
   refine do_ rfl (.bool true) (ex_assign _) ?_
   simp only [pS, pN, pA, pC, pZ]
   refine do_ rfl (.int .i64 0) (ex_assign _) ?_
   simp only [pS, pN, pA, pC, pZ]
   refine wl_nil (hK70 _ _ ?_)
   refine wp_ret ?_
   (try simp only [Exit.then, Exit.inBlock, ↓reduceIte, Nat.reduceEqDiff])
   refine bodyPost_ret (v := (.tuple #[(.agg #[(.bool (!p.gone)), (.slice xa83 p.value.length xc84)]), (.bool true), (.int .i64 0)])) ?_ rfl ?_
   ·exact res_ctt rfl ⟨_, rfl, loadN (cs := [(.bool (!p.gone)), (.slice xa83 p.value.length xc84)]) Try.underlying38 rfl (size_38) (St.range S86 (i := 2) rfl 0 [(.bool (!p.gone)), (.slice xa83 p.value.length xc84)] (sub_range 0 rfl))⟩ rfl rfl
   ·have ho : ownW t.writes n k = some p := find_hit hp hno hc69
    have hx : lookX l t n k = (if p.gone then none else some p.value, true) := by unfold lookX; rw [ho]
    rw [hx]
    exact ⟨_, _, rfl, S86.gr, _, rfl, FdV.fnd ⟨_, _, rfl, R82⟩ hpo⟩
  ·refine wp_skip ?_
   refine hK43 _ _ ?_
   refine region_wl ?_
   refine do_ rfl (.int .i64 (((i + 1) : Nat) : Int)) (ex_add (m := ((i : Nat) : Int)) (n := (1 : Int)) (r := (((i + 1) : Nat) : Int)) rfl rfl (by omega) (by omega) (by omega)) ?_
   simp only [pS, pN, pA, pC, pZ]
   refine do_ rfl (.int .i64 (((i + 1) : Nat) : Int)) (ex_move _) ?_
   simp only [pS, pN, pA, pC, pZ]
   refine wl_nil ?_
   have S68 := St.drop S68 (L' := [⟨n23, [(.bool (getF l n k).isSome), (.slice a20 ((getF l n k).getD []).length c21)], 38⟩, ⟨n5, [(.bool false), (.slice none 0 0)], 38⟩, ⟨n2, [(.int .i64 t.start), (.slice x0 t.reads.length y0), (.slice x1 t.writes.length y1)], 75⟩]) (.cons _ (List.Sublist.refl _))
   exact hK40 _ _ _ (by omega) ⟨(i + 1), F32, _, rfl, rfl, rfl, S68, le39, (by omega), (any_next hp hno (by simpa using hc69))⟩
 ·refine do_ rfl (.bool false) (ex_lss (m := ((i : Nat) : Int)) (n := ((t.writes.length : Nat) : Int)) (b := false) rfl rfl (decide_eq_false (by omega))) ?_
  simp only [pS, pN, pA, pC, pZ]
  refine wl_nil (hK41 _ _ ?_)
  refine wp_seq_k (fun K87 hK87 => ?_)
  refine wp_cond_false rfl ?_
  refine wp_exit ?_
  refine hK30 _ _ ?_
  refine wp_seq_k (fun K88 hK88 => region_wl ?_)
  refine do_ rfl (.agg #[(.bool (getF l n k).isSome), (.slice a20 ((getF l n k).getD []).length c21)]) (ex_load rfl (loadN (cs := [(.bool (getF l n k).isSome), (.slice a20 ((getF l n k).getD []).length c21)]) Try.underlying38 rfl (size_38) (St.range S38 (i := 0) rfl 0 [(.bool (getF l n k).isSome), (.slice a20 ((getF l n k).getD []).length c21)] (sub_range 0 rfl)))) ?_
  simp only [pS, pN, pA, pC, pZ]
  refine stStore (i := 1) (v := (.agg #[(.bool (getF l n k).isSome), (.slice a20 ((getF l n k).getD []).length c21)])) S38 rfl rfl rfl rfl (size_38) (allc2 rfl rfl) (Nat.le_of_ble_eq_true rfl) (fun w89 S90 => ?_)
  simp only [pS, pN, pA, pC, pZ]
  have S90 : St w F w89 F32 [⟨n23, [(.bool (getF l n k).isSome), (.slice a20 ((getF l n k).getD []).length c21)], 38⟩, ⟨n5, [(.bool (getF l n k).isSome), (.slice a20 ((getF l n k).getD []).length c21)], 38⟩, ⟨n2, [(.int .i64 t.start), (.slice x0 t.reads.length y0), (.slice x1 t.writes.length y1)], 75⟩] [] := S90
  refine do_ rfl (.bool false) (ex_assign _) ?_
  simp only [pS, pN, pA, pC, pZ]
  refine do_ rfl (.int .i64 0) (ex_assign _) ?_
  simp only [pS, pN, pA, pC, pZ]
  refine wl_nil (hK88 _ _ ?_)
  refine wp_ret ?_
  (try simp only [Exit.then, Exit.inBlock, ↓reduceIte, Nat.reduceEqDiff])
  refine bodyPost_ret (v := (.tuple #[(.agg #[(.bool (getF l n k).isSome), (.slice a20 ((getF l n k).getD []).length c21)]), (.bool false), (.int .i64 0)])) ?_ rfl ?_
  ·exact res_ctt rfl ⟨_, rfl, loadN (cs := [(.bool (getF l n k).isSome), (.slice a20 ((getF l n k).getD []).length c21)]) Try.underlying38 rfl (size_38) (St.range S90 (i := 1) rfl 0 [(.bool (getF l n k).isSome), (.slice a20 ((getF l n k).getD []).length c21)] (sub_range 0 rfl))⟩ rfl rfl
  ·have ho : ownW t.writes n k = none := find_no (any_all (by omega) hno)
   have hx : lookX l t n k = (getF l n k, false) := by unfold lookX; rw [ho]
   rw [hx]
   exact ⟨_, _, rfl, S90.gr, _, rfl, _, _, rfl, (r22.mono le39)⟩
set_option maxHeartbeats 8000000 in
theorem lookBad_spec (F : Fz) (w : World) (u v y z : Value) (l : Forest) (t : Tx) (n k : By) (hs : Sat w F) (hl : Tns F u l) (hv : TxV F v t) (hn : Bs F y n) (hk : Bs F z k) (hbw : ∀ r ∈ t.writes, r.name.length ≤ 100000 ∧ r.key.length ≤ 100000 ∧ r.value.length ≤ 100000) (hb0 : bothE l t ≠ 0) :
    Calls Try.prog 48 #[u, v, y, z] w (Gives w F (LookR none false (bothE l t))) := by
 obtain ⟨a, c, rfl, hc1, hc2⟩ := Sl.shape hl
 unfold maxLen at hc2
 obtain ⟨x0, y0, x1, y1, rfl, h0, h1⟩ := hv
 obtain ⟨_, _, e0, q0, q1⟩ := Sl.shape h0
 obtain ⟨_, _, e1, q2, q3⟩ := Sl.shape h1
 injection e0 with _ _ e0
 injection e1 with _ _ e1
 subst e0 e1
 unfold maxLen at q1 q3
 obtain ⟨a2, c2, rfl, _⟩ := hn.shape
 obtain ⟨a3, c3, rfl, _⟩ := hk.shape
 have S := St.start hs
 go_enter Try.func48, Try.ntmps48
 refine wp_seq_k (fun K1 hK1 => region_wl ?_)
 refine stNew S (v := fun n => .pointer (some ⟨n, 0, none⟩)) rfl (ex_box (v := (.agg #[(.int .i64 t.start), (.slice x0 t.reads.length y0), (.slice x1 t.writes.length y1)])) rfl) (fun n2 w3 S4 => ?_)
 simp only [pS, pN, pA, pC, pZ]
 have S4 : St w F w3 F [⟨n2, [(.int .i64 t.start), (.slice x0 t.reads.length y0), (.slice x1 t.writes.length y1)], 75⟩] [] := S4
 refine stNew S4 (v := fun n => .pointer (some ⟨n, 0, none⟩)) rfl (ex_alloc (zero_38 _)) (fun n5 w6 S7 => ?_)
 simp only [pS, pN, pA, pC, pZ]
 have S7 : St w F w6 F [⟨n5, [(.bool false), (.slice none 0 0)], 38⟩, ⟨n2, [(.int .i64 t.start), (.slice x0 t.reads.length y0), (.slice x1 t.writes.length y1)], 75⟩] [] := S7
 refine do_ rfl (.bool false) (ex_assign _) ?_
 simp only [pS, pN, pA, pC, pZ]
 refine do_ rfl (.int .i64 0) (ex_assign _) ?_
 simp only [pS, pN, pA, pC, pZ]
 refine wl_nil (hK1 _ _ ?_)
 refine wp_seq_k (fun K8 hK8 => ?_)
 refine wp_seq_k (fun K9 hK9 => region_wl ?_)
 refine do_ rfl (.slice a l.length c) (ex_move _) ?_
 simp only [pS, pN, pA, pC, pZ]
 refine do_ rfl (.agg #[(.int .i64 t.start), (.slice x0 t.reads.length y0), (.slice x1 t.writes.length y1)]) (ex_load rfl (loadN (cs := [(.int .i64 t.start), (.slice x0 t.reads.length y0), (.slice x1 t.writes.length y1)]) Try.underlying75 rfl (size_75) (St.range S7 (i := 1) rfl 0 [(.int .i64 t.start), (.slice x0 t.reads.length y0), (.slice x1 t.writes.length y1)] (sub_range 0 rfl)))) ?_
 simp only [pS, pN, pA, pC, pZ]
 refine stTells (v := (.int .i64 (bothE l t))) S7 rfl (ex_fn (vs := #[(.slice a l.length c), (.agg #[(.int .i64 t.start), (.slice x0 t.reads.length y0), (.slice x1 t.writes.length y1)])]) (map2 rfl rfl) rfl (ent_86 _ _)) (both_spec _ _ _ _ l t (S7).sat hl ⟨_, _, _, _, rfl, h0, h1⟩ hbw) (fun w10 S11 => ?_)
 simp only [pS, pN, pA, pC, pZ]
 refine do_ rfl (.int .i64 (bothE l t)) (ex_assign _) ?_
 simp only [pS, pN, pA, pC, pZ]
 refine wl_nil (hK9 _ _ ?_)
 refine wp_seq_k (fun K12 hK12 => region_wl ?_)
 refine do_ rfl (.int .i64 (bothE l t)) (ex_move _) ?_
 simp only [pS, pN, pA, pC, pZ]
 refine do_ rfl (.bool true) (ex_neq (m := (bothE l t)) (n := (0 : Int)) (b := true) rfl rfl (bne_iff_ne.2 (hb0))) ?_
 simp only [pS, pN, pA, pC, pZ]
 refine wl_nil (hK12 _ _ ?_)
 refine wp_cond_true rfl ?_
 refine wp_seq_k (fun K13 hK13 => region_wl ?_)
 refine do_ rfl (.agg #[(.bool false), (.slice none 0 0)]) (ex_build (ps := #[]) (bmap0) (by kernel_rfl)) ?_
 simp only [pS, pN, pA, pC, pZ]
 refine do_ rfl (.int .i64 (bothE l t)) (ex_move _) ?_
 simp only [pS, pN, pA, pC, pZ]
 refine stStore (i := 0) (v := (.agg #[(.bool false), (.slice none 0 0)])) S11 rfl rfl rfl rfl (size_38) (allc2 rfl rfl) (Nat.le_of_ble_eq_true rfl) (fun w14 S15 => ?_)
 simp only [pS, pN, pA, pC, pZ]
 have S15 : St w F w14 F [⟨n5, [(.bool false), (.slice none 0 0)], 38⟩, ⟨n2, [(.int .i64 t.start), (.slice x0 t.reads.length y0), (.slice x1 t.writes.length y1)], 75⟩] [] := S15
 refine do_ rfl (.bool false) (ex_assign _) ?_
 simp only [pS, pN, pA, pC, pZ]
 refine do_ rfl (.int .i64 (bothE l t)) (ex_assign _) ?_
 simp only [pS, pN, pA, pC, pZ]
 refine wl_nil (hK13 _ _ ?_)
 refine wp_ret ?_
 (try simp only [Exit.then, Exit.inBlock, ↓reduceIte, Nat.reduceEqDiff])
 refine bodyPost_ret (v := (.tuple #[(.agg #[(.bool false), (.slice none 0 0)]), (.bool false), (.int .i64 (bothE l t))])) ?_ rfl ?_
 ·exact res_ctt rfl ⟨_, rfl, loadN (cs := [(.bool false), (.slice none 0 0)]) Try.underlying38 rfl (size_38) (St.range S15 (i := 0) rfl 0 [(.bool false), (.slice none 0 0)] (sub_range 0 rfl))⟩ rfl rfl
 ·exact ⟨_, _, rfl, S15.gr, _, rfl, none, 0, rfl, Bs.nil _⟩
set_option maxHeartbeats 8000000 in
theorem lookNil_spec (F : Fz) (w : World) (u v z : Value) (l : Forest) (t : Tx) (k : By) (hs : Sat w F) (hl : Tns F u l) (hv : TxV F v t) (hk : Bs F z k) (hf : ForestOk 60 l) (ht : TxOk t) :
    Calls Try.prog 48 #[u, v, .slice none 0 0, z] w (Gives w F (LookR none false 1)) := by
 obtain ⟨a, c, rfl, hc1, hc2⟩ := Sl.shape hl
 unfold maxLen at hc2
 obtain ⟨x0, y0, x1, y1, rfl, h0, h1⟩ := hv
 obtain ⟨_, _, e0, q0, q1⟩ := Sl.shape h0
 obtain ⟨_, _, e1, q2, q3⟩ := Sl.shape h1
 injection e0 with _ _ e0
 injection e1 with _ _ e1
 subst e0 e1
 unfold maxLen at q1 q3
 obtain ⟨a3, c3, rfl, _⟩ := hk.shape
 have hb0 := bothE_ok.2 ⟨hf, ht⟩
 have hbw := fun r hr => (ht.writes r hr).small
 have S := St.start hs
 go_enter Try.func48, Try.ntmps48
 refine wp_seq_k (fun K1 hK1 => region_wl ?_)
 refine stNew S (v := fun n => .pointer (some ⟨n, 0, none⟩)) rfl (ex_box (v := (.agg #[(.int .i64 t.start), (.slice x0 t.reads.length y0), (.slice x1 t.writes.length y1)])) rfl) (fun n2 w3 S4 => ?_)
 simp only [pS, pN, pA, pC, pZ]
 have S4 : St w F w3 F [⟨n2, [(.int .i64 t.start), (.slice x0 t.reads.length y0), (.slice x1 t.writes.length y1)], 75⟩] [] := S4
 refine stNew S4 (v := fun n => .pointer (some ⟨n, 0, none⟩)) rfl (ex_alloc (zero_38 _)) (fun n5 w6 S7 => ?_)
 simp only [pS, pN, pA, pC, pZ]
 have S7 : St w F w6 F [⟨n5, [(.bool false), (.slice none 0 0)], 38⟩, ⟨n2, [(.int .i64 t.start), (.slice x0 t.reads.length y0), (.slice x1 t.writes.length y1)], 75⟩] [] := S7
 refine do_ rfl (.bool false) (ex_assign _) ?_
 simp only [pS, pN, pA, pC, pZ]
 refine do_ rfl (.int .i64 0) (ex_assign _) ?_
 simp only [pS, pN, pA, pC, pZ]
 refine wl_nil (hK1 _ _ ?_)
 refine wp_seq_k (fun K8 hK8 => ?_)
 refine wp_seq_k (fun K9 hK9 => region_wl ?_)
 refine do_ rfl (.slice a l.length c) (ex_move _) ?_
 simp only [pS, pN, pA, pC, pZ]
 refine do_ rfl (.agg #[(.int .i64 t.start), (.slice x0 t.reads.length y0), (.slice x1 t.writes.length y1)]) (ex_load rfl (loadN (cs := [(.int .i64 t.start), (.slice x0 t.reads.length y0), (.slice x1 t.writes.length y1)]) Try.underlying75 rfl (size_75) (St.range S7 (i := 1) rfl 0 [(.int .i64 t.start), (.slice x0 t.reads.length y0), (.slice x1 t.writes.length y1)] (sub_range 0 rfl)))) ?_
 simp only [pS, pN, pA, pC, pZ]
 refine stTells (v := (.int .i64 (bothE l t))) S7 rfl (ex_fn (vs := #[(.slice a l.length c), (.agg #[(.int .i64 t.start), (.slice x0 t.reads.length y0), (.slice x1 t.writes.length y1)])]) (map2 rfl rfl) rfl (ent_86 _ _)) (both_spec _ _ _ _ l t (S7).sat hl ⟨_, _, _, _, rfl, h0, h1⟩ hbw) (fun w10 S11 => ?_)
 simp only [pS, pN, pA, pC, pZ]
 refine do_ rfl (.int .i64 (bothE l t)) (ex_assign _) ?_
 simp only [pS, pN, pA, pC, pZ]
 refine wl_nil (hK9 _ _ ?_)
 refine wp_seq_k (fun K12 hK12 => region_wl ?_)
 refine do_ rfl (.int .i64 (bothE l t)) (ex_move _) ?_
 simp only [pS, pN, pA, pC, pZ]
 refine do_ rfl (.bool false) (ex_neq (m := (bothE l t)) (n := (0 : Int)) (b := false) rfl rfl (bne_eq_false_iff_eq.2 (hb0))) ?_
 simp only [pS, pN, pA, pC, pZ]
 refine wl_nil (hK12 _ _ ?_)
 refine wp_cond_false rfl ?_
 refine wp_skip ?_
 refine hK8 _ _ ?_
 refine wp_seq_k (fun K13 hK13 => region_wl ?_)
 refine do_ rfl (.slice a l.length c) (ex_move _) ?_
 simp only [pS, pN, pA, pC, pZ]
 refine do_ rfl (.slice none 0 0) (ex_move _) ?_
 simp only [pS, pN, pA, pC, pZ]
 refine do_ rfl (.slice a3 k.length c3) (ex_move _) ?_
 simp only [pS, pN, pA, pC, pZ]
 refine stGives S11 rfl (ex_fn (vs := #[(.slice a l.length c), (.slice none 0 0), (.slice a3 k.length c3)]) (map3 rfl rfl rfl) rfl (ent_30 _ _)) (getFNil_spec _ _ _ _ l k (S11).sat hl hk hf) ?_
 intro v19 w14 F16 S15 le17 R18
 obtain ⟨_, rfl, a20, c21, rfl, r22⟩ := R18
 simp only [pS, pN, pA, pC, pZ]
 refine do_ rfl (.tuple #[(.agg #[(.bool false), (.slice a20 ([] : By).length c21)]), (.int .i64 1)]) (ex_move _) ?_
 simp only [pS, pN, pA, pC, pZ]
 refine do_ rfl (.agg #[(.bool false), (.slice a20 ([] : By).length c21)]) (ex_extract rfl rfl) ?_
 simp only [pS, pN, pA, pC, pZ]
 refine do_ rfl (.int .i64 1) (ex_extract rfl rfl) ?_
 simp only [pS, pN, pA, pC, pZ]
 refine stNew S15 (v := fun n => .pointer (some ⟨n, 0, none⟩)) rfl (ex_alloc (zero_38 _)) (fun n23 w24 S25 => ?_)
 simp only [pS, pN, pA, pC, pZ]
 have S25 : St w F w24 F16 [⟨n23, [(.bool false), (.slice none 0 0)], 38⟩, ⟨n5, [(.bool false), (.slice none 0 0)], 38⟩, ⟨n2, [(.int .i64 t.start), (.slice x0 t.reads.length y0), (.slice x1 t.writes.length y1)], 75⟩] [] := S25
 refine stStore (i := 0) (v := (.agg #[(.bool false), (.slice a20 ([] : By).length c21)])) S25 rfl rfl rfl rfl (size_38) (allc2 rfl rfl) (Nat.le_of_ble_eq_true rfl) (fun w26 S27 => ?_)
 simp only [pS, pN, pA, pC, pZ]
 have S27 : St w F w26 F16 [⟨n23, [(.bool false), (.slice a20 ([] : By).length c21)], 38⟩, ⟨n5, [(.bool false), (.slice none 0 0)], 38⟩, ⟨n2, [(.int .i64 t.start), (.slice x0 t.reads.length y0), (.slice x1 t.writes.length y1)], 75⟩] [] := S27
 refine do_ rfl (.int .i64 1) (ex_assign _) ?_
 simp only [pS, pN, pA, pC, pZ]
 refine wl_nil (hK13 _ _ ?_)
 refine wp_seq_k (fun K28 hK28 => ?_)
 refine wp_seq_k (fun K29 hK29 => region_wl ?_)
 refine do_ rfl (.int .i64 1) (ex_move _) ?_
 simp only [pS, pN, pA, pC, pZ]
 refine do_ rfl (.bool true) (ex_neq (b := true) rfl rfl (by decide)) ?_
 simp only [pS, pN, pA, pC, pZ]
 refine wl_nil (hK29 _ _ ?_)
 refine wp_cond_true rfl ?_
 refine wp_seq_k (fun K30 hK30 => region_wl ?_)
 refine do_ rfl (.agg #[(.bool false), (.slice none 0 0)]) (ex_build (ps := #[]) (bmap0) (by kernel_rfl)) ?_
 simp only [pS, pN, pA, pC, pZ]
 refine do_ rfl (.int .i64 1) (ex_move _) ?_
 simp only [pS, pN, pA, pC, pZ]
 refine stStore (i := 1) (v := (.agg #[(.bool false), (.slice none 0 0)])) S27 rfl rfl rfl rfl (size_38) (allc2 rfl rfl) (Nat.le_of_ble_eq_true rfl) (fun w31 S32 => ?_)
 simp only [pS, pN, pA, pC, pZ]
 have S32 : St w F w31 F16 [⟨n23, [(.bool false), (.slice a20 ([] : By).length c21)], 38⟩, ⟨n5, [(.bool false), (.slice none 0 0)], 38⟩, ⟨n2, [(.int .i64 t.start), (.slice x0 t.reads.length y0), (.slice x1 t.writes.length y1)], 75⟩] [] := S32
 refine do_ rfl (.bool false) (ex_assign _) ?_
 simp only [pS, pN, pA, pC, pZ]
 refine do_ rfl (.int .i64 1) (ex_assign _) ?_
 simp only [pS, pN, pA, pC, pZ]
 refine wl_nil (hK30 _ _ ?_)
 refine wp_ret ?_
 (try simp only [Exit.then, Exit.inBlock, ↓reduceIte, Nat.reduceEqDiff])
 refine bodyPost_ret (v := (.tuple #[(.agg #[(.bool false), (.slice none 0 0)]), (.bool false), (.int .i64 1)])) ?_ rfl ?_
 ·exact res_ctt rfl ⟨_, rfl, loadN (cs := [(.bool false), (.slice none 0 0)]) Try.underlying38 rfl (size_38) (St.range S32 (i := 1) rfl 0 [(.bool false), (.slice none 0 0)] (sub_range 0 rfl))⟩ rfl rfl
 ·exact ⟨_, _, rfl, S32.gr, _, rfl, none, 0, rfl, Bs.nil _⟩
theorem scan_at {ws : List Wr} {i : Nat} {p : Wr} (hp : ws[i]? = some p) (n a b : By) (m : List Pr) : scanFrom n a b m (ws.drop i) = match scanStep n a b m p with | some x => scanFrom n a b x (ws.drop (i + 1)) | none => none := by
  obtain ⟨hi, rfl⟩ := List.getElem?_eq_some_iff.1 hp
  rw [List.drop_eq_getElem_cons hi]
  rfl
theorem scan_skip {ws : List Wr} {i : Nat} {p : Wr} {n a b : By} {m R : List Pr} (hp : ws[i]? = some p) (hr : inR n a b p = false) (h : scanFrom n a b m (ws.drop i) = some R) : scanFrom n a b m (ws.drop (i + 1)) = some R := by
  rw [scan_at hp] at h
  unfold scanStep at h
  rw [if_neg (by simp [hr])] at h
  exact h
theorem scan_del {ws : List Wr} {i : Nat} {p : Wr} {n a b : By} {m R : List Pr} (hp : ws[i]? = some p) (hr : inR n a b p = true) (hg : p.gone = true) (h : scanFrom n a b m (ws.drop i) = some R) : scanFrom n a b (delT m p.key) (ws.drop (i + 1)) = some R := by
  rw [scan_at hp] at h
  unfold scanStep at h
  rw [if_pos hr, if_neg (by simp [hg]), next_gone hg] at h
  exact h
theorem scan_put {ws : List Wr} {i : Nat} {p : Wr} {n a b : By} {m R : List Pr} (hp : ws[i]? = some p) (hr : inR n a b p = true) (hg : p.gone = false) (h : scanFrom n a b m (ws.drop i) = some R) : ¬ 60 < (putT m p.key p.value).length ∧ scanFrom n a b (putT m p.key p.value) (ws.drop (i + 1)) = some R := by
  rw [scan_at hp] at h
  unfold scanStep at h
  rw [if_pos hr, next_put hg] at h
  by_cases hl : 60 < (putT m p.key p.value).length
  · rw [if_pos ⟨hg, hl⟩] at h; cases h
  · rw [if_neg (fun k => hl k.2)] at h; exact ⟨hl, h⟩
set_option maxHeartbeats 8000000 in
theorem scan_spec (F : Fz) (w : World) (u v y z x : Value) (l : Forest) (t : Tx) (n k j : By) (R : List Pr) (hs : Sat w F) (hl : Tns F u l) (hv : TxV F v t) (hn : Bs F y n) (hk : Bs F z k) (hj : Bs F x j) (hf : ForestOk 60 l) (ht : TxOk t) (hnn : 1 ≤ n.length ∧ n.length ≤ 8) (hkk : 1 ≤ k.length ∧ k.length ≤ 16) (hjj : 1 ≤ j.length ∧ j.length ≤ 16) (hsc : scanX l t n k j = some R) :
    Calls Try.prog 49 #[u, v, y, z, x] w (Gives w F (PrsE R 0)) := by
 obtain ⟨a, c, rfl, hc1, hc2⟩ := Sl.shape hl
 unfold maxLen at hc2
 obtain ⟨x0, y0, x1, y1, rfl, h0, h1⟩ := hv
 obtain ⟨_, _, e0, q0, q1⟩ := Sl.shape h0
 obtain ⟨_, _, e1, q2, q3⟩ := Sl.shape h1
 injection e0 with _ _ e0
 injection e1 with _ _ e1
 subst e0 e1
 unfold maxLen at q1 q3
 obtain ⟨a2, c2, rfl, _⟩ := hn.shape
 obtain ⟨a3, c3, rfl, _⟩ := hk.shape
 obtain ⟨a4, c4, rfl, _⟩ := hj.shape
 have hb0 := bothE_ok.2 ⟨hf, ht⟩
 have hbw := fun r hr => (ht.writes r hr).small
 have hnw := ht.nw
 have S := St.start hs
 go_enter Try.func49, Try.ntmps49
 refine wp_seq_k (fun K1 hK1 => region_wl ?_)
 refine stNew S (v := fun n => .pointer (some ⟨n, 0, none⟩)) rfl (ex_box (v := (.agg #[(.int .i64 t.start), (.slice x0 t.reads.length y0), (.slice x1 t.writes.length y1)])) rfl) (fun n2 w3 S4 => ?_)
 simp only [pS, pN, pA, pC, pZ]
 have S4 : St w F w3 F [⟨n2, [(.int .i64 t.start), (.slice x0 t.reads.length y0), (.slice x1 t.writes.length y1)], 75⟩] [] := S4
 refine do_ rfl (.slice none 0 0) (ex_assign _) ?_
 simp only [pS, pN, pA, pC, pZ]
 refine do_ rfl (.int .i64 0) (ex_assign _) ?_
 simp only [pS, pN, pA, pC, pZ]
 refine wl_nil (hK1 _ _ ?_)
 refine wp_seq_k (fun K5 hK5 => ?_)
 refine wp_seq_k (fun K6 hK6 => region_wl ?_)
 refine do_ rfl (.slice a l.length c) (ex_move _) ?_
 simp only [pS, pN, pA, pC, pZ]
 refine do_ rfl (.agg #[(.int .i64 t.start), (.slice x0 t.reads.length y0), (.slice x1 t.writes.length y1)]) (ex_load rfl (loadN (cs := [(.int .i64 t.start), (.slice x0 t.reads.length y0), (.slice x1 t.writes.length y1)]) Try.underlying75 rfl (size_75) (St.range S4 (i := 0) rfl 0 [(.int .i64 t.start), (.slice x0 t.reads.length y0), (.slice x1 t.writes.length y1)] (sub_range 0 rfl)))) ?_
 simp only [pS, pN, pA, pC, pZ]
 refine stTells (v := (.int .i64 (bothE l t))) S4 rfl (ex_fn (vs := #[(.slice a l.length c), (.agg #[(.int .i64 t.start), (.slice x0 t.reads.length y0), (.slice x1 t.writes.length y1)])]) (map2 rfl rfl) rfl (ent_86 _ _)) (both_spec _ _ _ _ l t (S4).sat hl ⟨_, _, _, _, rfl, h0, h1⟩ hbw) (fun w7 S8 => ?_)
 simp only [pS, pN, pA, pC, pZ]
 refine do_ rfl (.int .i64 (bothE l t)) (ex_assign _) ?_
 simp only [pS, pN, pA, pC, pZ]
 refine wl_nil (hK6 _ _ ?_)
 refine wp_seq_k (fun K9 hK9 => region_wl ?_)
 refine do_ rfl (.int .i64 (bothE l t)) (ex_move _) ?_
 simp only [pS, pN, pA, pC, pZ]
 refine do_ rfl (.bool false) (ex_neq (m := (bothE l t)) (n := (0 : Int)) (b := false) rfl rfl (bne_eq_false_iff_eq.2 (hb0))) ?_
 simp only [pS, pN, pA, pC, pZ]
 refine wl_nil (hK9 _ _ ?_)
 refine wp_cond_false rfl ?_
 refine wp_skip ?_
 refine hK5 _ _ ?_
 refine wp_seq_k (fun K10 hK10 => region_wl ?_)
 refine do_ rfl (.slice a l.length c) (ex_move _) ?_
 simp only [pS, pN, pA, pC, pZ]
 refine do_ rfl (.slice a2 n.length c2) (ex_move _) ?_
 simp only [pS, pN, pA, pC, pZ]
 refine do_ rfl (.slice a3 k.length c3) (ex_move _) ?_
 simp only [pS, pN, pA, pC, pZ]
 refine do_ rfl (.slice a4 j.length c4) (ex_move _) ?_
 simp only [pS, pN, pA, pC, pZ]
 refine stGives S8 rfl (ex_fn (vs := #[(.slice a l.length c), (.slice a2 n.length c2), (.slice a3 k.length c3), (.slice a4 j.length c4)]) (map4 rfl rfl rfl rfl) rfl (ent_29 _ _)) (rangeF_spec _ _ _ _ _ _ l n k j (S8).sat hl hn hk hj hf hnn hkk hjj) ?_
 intro v16 w11 F13 S12 le14 R15
 obtain ⟨_, rfl, r19⟩ := R15
 obtain ⟨a17, c18, rfl, h20, h21⟩ := Sl.shape r19
 unfold maxLen at h21
 have h20 : (rangeT (treeF l n) k j).length ≤ c18 := h20
 have r19 : Prs _ (.slice a17 (rangeT (treeF l n) k j).length c18) (rangeT (treeF l n) k j) := r19
 simp only [pS, pN, pA, pC, pZ]
 refine do_ rfl (.tuple #[(.slice a17 (rangeT (treeF l n) k j).length c18), (.int .i64 0)]) (ex_move _) ?_
 simp only [pS, pN, pA, pC, pZ]
 refine do_ rfl (.slice a17 (rangeT (treeF l n) k j).length c18) (ex_extract rfl rfl) ?_
 simp only [pS, pN, pA, pC, pZ]
 refine do_ rfl (.int .i64 0) (ex_extract rfl rfl) ?_
 simp only [pS, pN, pA, pC, pZ]
 refine do_ rfl (.slice a17 (rangeT (treeF l n) k j).length c18) (ex_assign _) ?_
 simp only [pS, pN, pA, pC, pZ]
 refine do_ rfl (.int .i64 0) (ex_assign _) ?_
 simp only [pS, pN, pA, pC, pZ]
 refine wl_nil (hK10 _ _ ?_)
 refine wp_seq_k (fun K22 hK22 => ?_)
 refine wp_seq_k (fun K23 hK23 => region_wl ?_)
 refine do_ rfl (.int .i64 0) (ex_move _) ?_
 simp only [pS, pN, pA, pC, pZ]
 refine do_ rfl (.bool false) (ex_neq (b := false) rfl rfl (by decide)) ?_
 simp only [pS, pN, pA, pC, pZ]
 refine wl_nil (hK23 _ _ ?_)
 refine wp_cond_false rfl ?_
 refine wp_skip ?_
 refine hK22 _ _ ?_
 refine wp_seq_k (fun K24 hK24 => ?_)
 refine wp_seq_k (fun K25 hK25 => region_wl ?_)
 refine do_ rfl (.pointer (some ⟨n2, 2, none⟩)) (ex_field (q := ⟨n2, 2, none⟩) rfl (fa_75_2 _ _)) ?_
 simp only [pS, pN, pA, pC, pZ]
 refine do_ rfl (.slice x1 t.writes.length y1) (ex_load rfl (load1 (nagg_44 _) (St.cell S12 (i := 0) rfl rfl))) ?_
 simp only [pS, pN, pA, pC, pZ]
 refine do_ rfl (.int .i64 ((t.writes.length : Nat) : Int)) (ex_len Try.underlying44 rfl) ?_
 simp only [pS, pN, pA, pC, pZ]
 refine do_ rfl (.int .i64 0) (ex_move _) ?_
 simp only [pS, pN, pA, pC, pZ]
 refine wl_nil (hK25 _ _ ?_)
 refine wp_block ?_
 refine wp_loop_g (fun mm aa w28 => ∃ (i : Nat) (m : List Pr) (v : Value) (F26 : Fz) (u27 : Nat → Value), mm = t.writes.length - i ∧ u27 = slots aa ∧ aa = ⟨#[(.slice a l.length c), (.agg #[(.int .i64 t.start), (.slice x0 t.reads.length y0), (.slice x1 t.writes.length y1)]), (.slice a2 n.length c2), (.slice a3 k.length c3), (.slice a4 j.length c4), undef, (.pointer (some ⟨n2, 0, none⟩)), undef, undef, undef, (u27 10), (u27 11), (.int .i64 (bothE l t)), v, (u27 14), undef, (u27 16), (u27 17), (.slice a l.length c), (.agg #[(.int .i64 t.start), (.slice x0 t.reads.length y0), (.slice x1 t.writes.length y1)]), (.int .i64 (bothE l t)), (.int .i64 (bothE l t)), (.bool false), undef, (.tuple #[(.slice a17 (rangeT (treeF l n) k j).length c18), (.int .i64 0)]), (.slice a l.length c), (.slice a2 n.length c2), (.slice a3 k.length c3), (.slice a4 j.length c4), (.tuple #[(.slice a17 (rangeT (treeF l n) k j).length c18), (.int .i64 0)]), (.slice a17 (rangeT (treeF l n) k j).length c18), (.int .i64 0), (.int .i64 0), (.bool false), undef, (.pointer (some ⟨n2, 2, none⟩)), (.slice x1 t.writes.length y1), (.int .i64 ((t.writes.length : Nat) : Int)), (.int .i64 ((i : Nat) : Int)), (u27 39), (u27 40), (u27 41), (u27 42), (u27 43), (u27 44), (u27 45), (u27 46), (u27 47), (u27 48), (u27 49), (u27 50), (u27 51), (u27 52), (u27 53), (u27 54), (u27 55), (u27 56), (u27 57), (u27 58), (u27 59), (u27 60), (u27 61), (u27 62), (u27 63), (u27 64), (u27 65), (u27 66), (u27 67), (u27 68), (u27 69), (u27 70), (u27 71), (u27 72), (u27 73), (u27 74), (u27 75), (u27 76), (u27 77), (u27 78), (u27 79), (u27 80), (u27 81), (u27 82), (u27 83), (u27 84), undef], []⟩ ∧ St w F w28 F26 [⟨n2, [(.int .i64 t.start), (.slice x0 t.reads.length y0), (.slice x1 t.writes.length y1)], 75⟩] [] ∧ Le F13 F26 ∧ (i ≤ t.writes.length) ∧ (Prs F26 v m) ∧ (TreeOk 60 m) ∧ (scanFrom n k j m (t.writes.drop i) = some R)) _ ⟨0, (rangeT (treeF l n) k j), (.slice a17 (rangeT (treeF l n) k j).length c18), F13, _, rfl, rfl, rfl, S12, Le.refl _, (by omega), r19, ((treeF_ok hf n).range k j), hsc⟩ ?_
 rintro m29 a30 w31 ⟨i, m, v, F26, u27, rfl, -, rfl, S32, le33, hi, hvm, okm, hsm⟩ K34 hK34
 refine wp_seq_k (fun K35 hK35 => region_wl ?_)
 by_cases hc39 : i < t.writes.length
 ·refine do_ rfl (.bool true) (ex_lss (m := ((i : Nat) : Int)) (n := ((t.writes.length : Nat) : Int)) (b := true) rfl rfl (decide_eq_true (by omega))) ?_
  simp only [pS, pN, pA, pC, pZ]
  refine wl_nil (hK35 _ _ ?_)
  refine wp_seq_k (fun K36 hK36 => ?_)
  refine wp_cond_true rfl ?_
  refine wp_skip ?_
  refine hK36 _ _ ?_
  refine wp_seq_k (fun K37 hK37 => ?_)
  refine wp_block ?_
  refine wp_seq_k (fun K38 hK38 => ?_)
  obtain ⟨p, hp⟩ : ∃ p, t.writes[i]? = some p := ⟨t.writes[i], List.getElem?_eq_getElem hc39⟩
  have hpo := ht.writes p (List.mem_of_getElem? hp)
  have hps := hpo.small
  obtain ⟨b39, o40, ha41, xa43, xc44, xa47, xc48, xa52, xc53, c42, c46, c50, c51, r45, r49, r54⟩ := Wrs.get (h1.mono (le14.trans le33)) hp
  refine region_wl ?_
  refine do_ rfl (.pointer (some ⟨b39, o40 + i * 4, none⟩)) (ex_at (i := i) (sz := 4) Try.underlying44 (sizeof_27 _) rfl ha41 rfl (by omega) rfl) ?_
  simp only [pS, pN, pA, pC, pZ]
  refine do_ rfl (.agg #[(.slice xa43 p.name.length xc44), (.slice xa47 p.key.length xc48), (.bool p.gone), (.slice xa52 p.value.length xc53)]) (ex_load rfl (loadN (cs := [(.slice xa43 p.name.length xc44), (.slice xa47 p.key.length xc48), (.bool p.gone), (.slice xa52 p.value.length xc53)]) Try.underlying27 rfl (size_27) (range4 (St.fz S32 c42) (St.fz S32 c46) (St.fz S32 c50) (St.fz S32 c51)))) ?_
  simp only [pS, pN, pA, pC, pZ]
  refine stNew S32 (v := fun n => .pointer (some ⟨n, 0, none⟩)) rfl (ex_alloc (zero_27 _)) (fun n55 w56 S57 => ?_)
  simp only [pS, pN, pA, pC, pZ]
  have S57 : St w F w56 F26 [⟨n55, [(.slice none 0 0), (.slice none 0 0), (.bool false), (.slice none 0 0)], 27⟩, ⟨n2, [(.int .i64 t.start), (.slice x0 t.reads.length y0), (.slice x1 t.writes.length y1)], 75⟩] [] := S57
  refine stStore (i := 0) (v := (.agg #[(.slice xa43 p.name.length xc44), (.slice xa47 p.key.length xc48), (.bool p.gone), (.slice xa52 p.value.length xc53)])) S57 rfl rfl rfl rfl (size_27) (allc4 rfl rfl rfl rfl) (Nat.le_of_ble_eq_true rfl) (fun w58 S59 => ?_)
  simp only [pS, pN, pA, pC, pZ]
  have S59 : St w F w58 F26 [⟨n55, [(.slice xa43 p.name.length xc44), (.slice xa47 p.key.length xc48), (.bool p.gone), (.slice xa52 p.value.length xc53)], 27⟩, ⟨n2, [(.int .i64 t.start), (.slice x0 t.reads.length y0), (.slice x1 t.writes.length y1)], 75⟩] [] := S59
  refine wl_nil (hK38 _ _ ?_)
  refine wp_seq_k (fun K60 hK60 => ?_)
  refine wp_seq_k (fun K61 hK61 => ?_)
  by_cases e1 : p.name = n
  ·refine region_wl ?_
   refine do_ rfl (.pointer (some ⟨n55, 0, none⟩)) (ex_field (q := ⟨n55, 0, none⟩) rfl (fa_27_0 _ _)) ?_
   simp only [pS, pN, pA, pC, pZ]
   refine do_ rfl (.slice xa43 p.name.length xc44) (ex_load rfl (load1 (nagg_25 _) (St.cell S59 (i := 0) rfl rfl))) ?_
   simp only [pS, pN, pA, pC, pZ]
   refine do_ rfl (.slice a2 n.length c2) (ex_move _) ?_
   simp only [pS, pN, pA, pC, pZ]
   refine stTells (v := (.bool true)) S59 rfl (ex_fn (vs := #[(.slice xa43 p.name.length xc44), (.slice a2 n.length c2)]) (map2 rfl rfl) rfl (ent_87 _ _)) (tells_bool (bytesEqual_spec _ _ _ _ p.name n (S59).sat r45 (hn.mono (le14.trans le33))) (beq_iff_eq.2 (e1))) (fun w62 S63 => ?_)
   simp only [pS, pN, pA, pC, pZ]
   refine do_ rfl (.bool false) (ex_not (b := true) rfl rfl) ?_
   simp only [pS, pN, pA, pC, pZ]
   refine do_ rfl (.bool false) (ex_move _) ?_
   simp only [pS, pN, pA, pC, pZ]
   refine do_ rfl (.pointer (some ⟨n55, 1, none⟩)) (ex_field (q := ⟨n55, 1, none⟩) rfl (fa_27_1 _ _)) ?_
   simp only [pS, pN, pA, pC, pZ]
   refine do_ rfl (.slice xa47 p.key.length xc48) (ex_load rfl (load1 (nagg_25 _) (St.cell S63 (i := 0) rfl rfl))) ?_
   simp only [pS, pN, pA, pC, pZ]
   refine do_ rfl (.slice a3 k.length c3) (ex_move _) ?_
   simp only [pS, pN, pA, pC, pZ]
   refine stTells (v := (.int .i64 (cmpL p.key k))) S63 rfl (ex_fn (vs := #[(.slice xa47 p.key.length xc48), (.slice a3 k.length c3)]) (map2 rfl rfl) rfl (ent_70 _ _)) (bytesCompare_spec _ _ _ _ p.key k (S63).sat r49 (hk.mono (le14.trans le33))) (fun w64 S65 => ?_)
   simp only [pS, pN, pA, pC, pZ]
   by_cases hc52 : (cmpL p.key k) < (0 : Int)
   ·refine do_ rfl (.bool true) (ex_lss (m := (cmpL p.key k)) (n := (0 : Int)) (b := true) rfl rfl (decide_eq_true (by omega))) ?_
    simp only [pS, pN, pA, pC, pZ]
    refine do_ rfl (.bool true) (ex_pick (b := false) rfl) ?_
    simp only [pS, pN, pA, pC, pZ]
    refine do_ rfl (.bool true) (ex_move _) ?_
    simp only [pS, pN, pA, pC, pZ]
    refine doN (wanted_no rfl rfl rfl (c := true) rfl (by decide)) ?_
    simp only [pS, pN, pA, pC, pZ]
    refine doN (wanted_no rfl rfl rfl (c := true) rfl (by decide)) ?_
    simp only [pS, pN, pA, pC, pZ]
    refine doN (wanted_no rfl rfl rfl (c := true) rfl (by decide)) ?_
    simp only [pS, pN, pA, pC, pZ]
    refine doN (wanted_no rfl rfl rfl (c := true) rfl (by decide)) ?_
    simp only [pS, pN, pA, pC, pZ]
    refine doN (wanted_no rfl rfl rfl (c := true) rfl (by decide)) ?_
    simp only [pS, pN, pA, pC, pZ]
    refine do_ rfl (.bool true) (ex_pick (b := true) rfl) ?_
    simp only [pS, pN, pA, pC, pZ]
    refine wl_nil (hK61 _ _ ?_)
    refine wp_cond_true rfl ?_
    refine wp_exit ?_
    refine hK37 _ _ ?_
    refine region_wl ?_
    refine do_ rfl (.int .i64 (((i + 1) : Nat) : Int)) (ex_add (m := ((i : Nat) : Int)) (n := (1 : Int)) (r := (((i + 1) : Nat) : Int)) rfl rfl (by omega) (by omega) (by omega)) ?_
    simp only [pS, pN, pA, pC, pZ]
    refine do_ rfl (.int .i64 (((i + 1) : Nat) : Int)) (ex_move _) ?_
    simp only [pS, pN, pA, pC, pZ]
    refine wl_nil ?_
    have S65 := St.drop S65 (L' := [⟨n2, [(.int .i64 t.start), (.slice x0 t.reads.length y0), (.slice x1 t.writes.length y1)], 75⟩]) (.cons _ (List.Sublist.refl _))
    exact hK34 _ _ _ (by omega) ⟨(i + 1), m, v, F26, _, rfl, rfl, rfl, S65, le33, (by omega), hvm, okm, (scan_skip hp (by unfold inR; rw [beq_iff_eq.2 e1, geq_cmp, leq_cmp]; first | rw [decide_eq_false (by omega)]; rfl | rw [decide_eq_true (by omega), decide_eq_false (by omega)]; rfl) hsm)⟩
   ·refine do_ rfl (.bool false) (ex_lss (m := (cmpL p.key k)) (n := (0 : Int)) (b := false) rfl rfl (decide_eq_false (by omega))) ?_
    simp only [pS, pN, pA, pC, pZ]
    refine do_ rfl (.bool false) (ex_pick (b := false) rfl) ?_
    simp only [pS, pN, pA, pC, pZ]
    refine do_ rfl (.bool false) (ex_move _) ?_
    simp only [pS, pN, pA, pC, pZ]
    refine do_ rfl (.pointer (some ⟨n55, 1, none⟩)) (ex_field (q := ⟨n55, 1, none⟩) rfl (fa_27_1 _ _)) ?_
    simp only [pS, pN, pA, pC, pZ]
    refine do_ rfl (.slice xa47 p.key.length xc48) (ex_load rfl (load1 (nagg_25 _) (St.cell S65 (i := 0) rfl rfl))) ?_
    simp only [pS, pN, pA, pC, pZ]
    refine do_ rfl (.slice a4 j.length c4) (ex_move _) ?_
    simp only [pS, pN, pA, pC, pZ]
    refine stTells (v := (.int .i64 (cmpL p.key j))) S65 rfl (ex_fn (vs := #[(.slice xa47 p.key.length xc48), (.slice a4 j.length c4)]) (map2 rfl rfl) rfl (ent_70 _ _)) (bytesCompare_spec _ _ _ _ p.key j (S65).sat r49 (hj.mono (le14.trans le33))) (fun w66 S67 => ?_)
    simp only [pS, pN, pA, pC, pZ]
    by_cases hc59 : (0 : Int) < (cmpL p.key j)
    ·refine do_ rfl (.bool true) (ex_gtr (m := (cmpL p.key j)) (n := (0 : Int)) (b := true) rfl rfl (decide_eq_true (by omega))) ?_
     simp only [pS, pN, pA, pC, pZ]
     refine do_ rfl (.bool true) (ex_pick (b := false) rfl) ?_
     simp only [pS, pN, pA, pC, pZ]
     refine wl_nil (hK61 _ _ ?_)
     refine wp_cond_true rfl ?_
     refine wp_exit ?_
     refine hK37 _ _ ?_
     refine region_wl ?_
     refine do_ rfl (.int .i64 (((i + 1) : Nat) : Int)) (ex_add (m := ((i : Nat) : Int)) (n := (1 : Int)) (r := (((i + 1) : Nat) : Int)) rfl rfl (by omega) (by omega) (by omega)) ?_
     simp only [pS, pN, pA, pC, pZ]
     refine do_ rfl (.int .i64 (((i + 1) : Nat) : Int)) (ex_move _) ?_
     simp only [pS, pN, pA, pC, pZ]
     refine wl_nil ?_
     have S67 := St.drop S67 (L' := [⟨n2, [(.int .i64 t.start), (.slice x0 t.reads.length y0), (.slice x1 t.writes.length y1)], 75⟩]) (.cons _ (List.Sublist.refl _))
     exact hK34 _ _ _ (by omega) ⟨(i + 1), m, v, F26, _, rfl, rfl, rfl, S67, le33, (by omega), hvm, okm, (scan_skip hp (by unfold inR; rw [beq_iff_eq.2 e1, geq_cmp, leq_cmp]; first | rw [decide_eq_false (by omega)]; rfl | rw [decide_eq_true (by omega), decide_eq_false (by omega)]; rfl) hsm)⟩
    ·refine do_ rfl (.bool false) (ex_gtr (m := (cmpL p.key j)) (n := (0 : Int)) (b := false) rfl rfl (decide_eq_false (by omega))) ?_
     simp only [pS, pN, pA, pC, pZ]
     refine do_ rfl (.bool false) (ex_pick (b := false) rfl) ?_
     simp only [pS, pN, pA, pC, pZ]
     refine wl_nil (hK61 _ _ ?_)
     refine wp_cond_false rfl ?_
     refine wp_skip ?_
     refine hK60 _ _ ?_
     refine wp_seq_k (fun K68 hK68 => region_wl ?_)
     refine do_ rfl (.slice none 0 0) (ex_assign _) ?_
     simp only [pS, pN, pA, pC, pZ]
     refine wl_nil (hK68 _ _ ?_)
     refine wp_seq_k (fun K69 hK69 => ?_)
     refine wp_seq_k (fun K70 hK70 => ?_)
     have hin : inR n k j p = true := by unfold inR; rw [beq_iff_eq.2 e1, geq_cmp, leq_cmp, decide_eq_true (by omega), decide_eq_true (by omega)]; rfl
     cases hg : p.gone with
     | true =>
      rw [hg] at S67
      refine region_wl ?_
      refine do_ rfl (.pointer (some ⟨n55, 2, none⟩)) (ex_field (q := ⟨n55, 2, none⟩) rfl (fa_27_2 _ _)) ?_
      simp only [pS, pN, pA, pC, pZ]
      refine do_ rfl (.bool true) (ex_load rfl (load1 (nagg_4 _) (St.cell S67 (i := 0) rfl rfl))) ?_
      simp only [pS, pN, pA, pC, pZ]
      refine wl_nil (hK70 _ _ ?_)
      refine wp_cond_true rfl ?_
      refine region_wl ?_
      refine do_ rfl v (ex_move _) ?_
      simp only [pS, pN, pA, pC, pZ]
      refine do_ rfl (.pointer (some ⟨n55, 1, none⟩)) (ex_field (q := ⟨n55, 1, none⟩) rfl (fa_27_1 _ _)) ?_
      simp only [pS, pN, pA, pC, pZ]
      refine do_ rfl (.slice xa47 p.key.length xc48) (ex_load rfl (load1 (nagg_25 _) (St.cell S67 (i := 0) rfl rfl))) ?_
      simp only [pS, pN, pA, pC, pZ]
      refine stGives S67 rfl (ex_fn (vs := #[v, (.slice xa47 p.key.length xc48)]) (map2 rfl rfl) rfl (ent_20 _ _)) (delOk_spec _ _ _ _ m p.key (S67).sat hvm r49 okm ⟨hpo.key1, hpo.key2⟩) ?_
      intro v76 w71 F73 S72 le74 R75
      obtain ⟨_, rfl, r79⟩ := R75
      obtain ⟨a77, c78, rfl, h80, h81⟩ := Sl.shape r79
      unfold maxLen at h81
      have h80 : (delT m p.key).length ≤ c78 := h80
      have r79 : Prs _ (.slice a77 (delT m p.key).length c78) (delT m p.key) := r79
      simp only [pS, pN, pA, pC, pZ]
      refine do_ rfl (.tuple #[(.slice a77 (delT m p.key).length c78), (.int .i64 0)]) (ex_move _) ?_
      simp only [pS, pN, pA, pC, pZ]
      refine do_ rfl (.slice a77 (delT m p.key).length c78) (ex_extract rfl rfl) ?_
      simp only [pS, pN, pA, pC, pZ]
      refine do_ rfl (.int .i64 0) (ex_extract rfl rfl) ?_
      simp only [pS, pN, pA, pC, pZ]
      refine do_ rfl (.slice a77 (delT m p.key).length c78) (ex_assign _) ?_
      simp only [pS, pN, pA, pC, pZ]
      refine do_ rfl (.int .i64 0) (ex_assign _) ?_
      simp only [pS, pN, pA, pC, pZ]
      refine wl_nil (hK69 _ _ ?_)
      refine wp_seq_k (fun K82 hK82 => ?_)
      refine wp_seq_k (fun K83 hK83 => region_wl ?_)
      refine do_ rfl (.int .i64 0) (ex_move _) ?_
      simp only [pS, pN, pA, pC, pZ]
      refine do_ rfl (.bool false) (ex_neq (b := false) rfl rfl (by decide)) ?_
      simp only [pS, pN, pA, pC, pZ]
      refine wl_nil (hK83 _ _ ?_)
      refine wp_cond_false rfl ?_
      refine wp_skip ?_
      refine hK82 _ _ ?_
      refine region_wl ?_
      refine do_ rfl (.slice a77 (delT m p.key).length c78) (ex_move _) ?_
      simp only [pS, pN, pA, pC, pZ]
      refine do_ rfl (.slice a77 (delT m p.key).length c78) (ex_assign _) ?_
      simp only [pS, pN, pA, pC, pZ]
      refine wl_nil (hK37 _ _ ?_)
      refine region_wl ?_
      refine do_ rfl (.int .i64 (((i + 1) : Nat) : Int)) (ex_add (m := ((i : Nat) : Int)) (n := (1 : Int)) (r := (((i + 1) : Nat) : Int)) rfl rfl (by omega) (by omega) (by omega)) ?_
      simp only [pS, pN, pA, pC, pZ]
      refine do_ rfl (.int .i64 (((i + 1) : Nat) : Int)) (ex_move _) ?_
      simp only [pS, pN, pA, pC, pZ]
      refine wl_nil ?_
      have S72 := St.drop S72 (L' := [⟨n2, [(.int .i64 t.start), (.slice x0 t.reads.length y0), (.slice x1 t.writes.length y1)], 75⟩]) (.cons _ (List.Sublist.refl _))
      exact hK34 _ _ _ (by omega) ⟨(i + 1), (delT m p.key), (.slice a77 (delT m p.key).length c78), F73, _, rfl, rfl, rfl, S72, (le33.trans le74), (by omega), r79, okm.del, (scan_del hp hin hg hsm)⟩
     | false =>
      rw [hg] at S67
      have hfit := scan_put hp hin hg hsm
      refine region_wl ?_
      refine do_ rfl (.pointer (some ⟨n55, 2, none⟩)) (ex_field (q := ⟨n55, 2, none⟩) rfl (fa_27_2 _ _)) ?_
      simp only [pS, pN, pA, pC, pZ]
      refine do_ rfl (.bool false) (ex_load rfl (load1 (nagg_4 _) (St.cell S67 (i := 0) rfl rfl))) ?_
      simp only [pS, pN, pA, pC, pZ]
      refine wl_nil (hK70 _ _ ?_)
      refine wp_cond_false rfl ?_
      refine region_wl ?_
      refine do_ rfl v (ex_move _) ?_
      simp only [pS, pN, pA, pC, pZ]
      refine do_ rfl (.pointer (some ⟨n55, 1, none⟩)) (ex_field (q := ⟨n55, 1, none⟩) rfl (fa_27_1 _ _)) ?_
      simp only [pS, pN, pA, pC, pZ]
      refine do_ rfl (.slice xa47 p.key.length xc48) (ex_load rfl (load1 (nagg_25 _) (St.cell S67 (i := 0) rfl rfl))) ?_
      simp only [pS, pN, pA, pC, pZ]
      refine do_ rfl (.pointer (some ⟨n55, 3, none⟩)) (ex_field (q := ⟨n55, 3, none⟩) rfl (fa_27_3 _ _)) ?_
      simp only [pS, pN, pA, pC, pZ]
      refine do_ rfl (.slice xa52 p.value.length xc53) (ex_load rfl (load1 (nagg_25 _) (St.cell S67 (i := 0) rfl rfl))) ?_
      simp only [pS, pN, pA, pC, pZ]
      refine do_ rfl (.agg #[(.slice xa47 p.key.length xc48), (.slice xa52 p.value.length xc53)]) (ex_build (ps := #[(0, (.slice xa47 p.key.length xc48)), (1, (.slice xa52 p.value.length xc53))]) (bmap2 rfl rfl) (by kernel_rfl)) ?_
      simp only [pS, pN, pA, pC, pZ]
      refine stGives S67 rfl (ex_fn (vs := #[v, (.agg #[(.slice xa47 p.key.length xc48), (.slice xa52 p.value.length xc53)])]) (map2 rfl rfl) rfl (ent_21 _ _)) (putFit_spec _ _ _ _ m (p.key, p.value) (S67).sat hvm ⟨_, _, _, _, rfl, r49, r54⟩ okm hps.2.1 hps.2.2 (pairE_ok.2 ⟨hpo.key1, hpo.key2, hpo.value⟩) hfit.1) ?_
      intro v89 w84 F86 S85 le87 R88
      obtain ⟨_, rfl, r92⟩ := R88
      obtain ⟨a90, c91, rfl, h93, h94⟩ := Sl.shape r92
      unfold maxLen at h94
      have h93 : (putT m p.key p.value).length ≤ c91 := h93
      have r92 : Prs _ (.slice a90 (putT m p.key p.value).length c91) (putT m p.key p.value) := r92
      simp only [pS, pN, pA, pC, pZ]
      refine do_ rfl (.tuple #[(.slice a90 (putT m p.key p.value).length c91), (.int .i64 0)]) (ex_move _) ?_
      simp only [pS, pN, pA, pC, pZ]
      refine do_ rfl (.slice a90 (putT m p.key p.value).length c91) (ex_extract rfl rfl) ?_
      simp only [pS, pN, pA, pC, pZ]
      refine do_ rfl (.int .i64 0) (ex_extract rfl rfl) ?_
      simp only [pS, pN, pA, pC, pZ]
      refine do_ rfl (.slice a90 (putT m p.key p.value).length c91) (ex_assign _) ?_
      simp only [pS, pN, pA, pC, pZ]
      refine do_ rfl (.int .i64 0) (ex_assign _) ?_
      simp only [pS, pN, pA, pC, pZ]
      refine wl_nil (hK69 _ _ ?_)
      refine wp_seq_k (fun K95 hK95 => ?_)
      refine wp_seq_k (fun K96 hK96 => region_wl ?_)
      refine do_ rfl (.int .i64 0) (ex_move _) ?_
      simp only [pS, pN, pA, pC, pZ]
      refine do_ rfl (.bool false) (ex_neq (b := false) rfl rfl (by decide)) ?_
      simp only [pS, pN, pA, pC, pZ]
      refine wl_nil (hK96 _ _ ?_)
      refine wp_cond_false rfl ?_
      refine wp_skip ?_
      refine hK95 _ _ ?_
      refine region_wl ?_
      refine do_ rfl (.slice a90 (putT m p.key p.value).length c91) (ex_move _) ?_
      simp only [pS, pN, pA, pC, pZ]
      refine do_ rfl (.slice a90 (putT m p.key p.value).length c91) (ex_assign _) ?_
      simp only [pS, pN, pA, pC, pZ]
      refine wl_nil (hK37 _ _ ?_)
      refine region_wl ?_
      refine do_ rfl (.int .i64 (((i + 1) : Nat) : Int)) (ex_add (m := ((i : Nat) : Int)) (n := (1 : Int)) (r := (((i + 1) : Nat) : Int)) rfl rfl (by omega) (by omega) (by omega)) ?_
      simp only [pS, pN, pA, pC, pZ]
      refine do_ rfl (.int .i64 (((i + 1) : Nat) : Int)) (ex_move _) ?_
      simp only [pS, pN, pA, pC, pZ]
      refine wl_nil ?_
      have S85 := St.drop S85 (L' := [⟨n2, [(.int .i64 t.start), (.slice x0 t.reads.length y0), (.slice x1 t.writes.length y1)], 75⟩]) (.cons _ (List.Sublist.refl _))
      exact hK34 _ _ _ (by omega) ⟨(i + 1), (putT m p.key p.value), (.slice a90 (putT m p.key p.value).length c91), F86, _, rfl, rfl, rfl, S85, (le33.trans le87), (by omega), r92, (okm.put ⟨hpo.key1, hpo.key2, hpo.value⟩ (by omega)), hfit.2⟩
  ·refine region_wl ?_
   refine do_ rfl (.pointer (some ⟨n55, 0, none⟩)) (ex_field (q := ⟨n55, 0, none⟩) rfl (fa_27_0 _ _)) ?_
   simp only [pS, pN, pA, pC, pZ]
   refine do_ rfl (.slice xa43 p.name.length xc44) (ex_load rfl (load1 (nagg_25 _) (St.cell S59 (i := 0) rfl rfl))) ?_
   simp only [pS, pN, pA, pC, pZ]
   refine do_ rfl (.slice a2 n.length c2) (ex_move _) ?_
   simp only [pS, pN, pA, pC, pZ]
   refine stTells (v := (.bool false)) S59 rfl (ex_fn (vs := #[(.slice xa43 p.name.length xc44), (.slice a2 n.length c2)]) (map2 rfl rfl) rfl (ent_87 _ _)) (tells_bool (bytesEqual_spec _ _ _ _ p.name n (S59).sat r45 (hn.mono (le14.trans le33))) (beq_eq_false_iff_ne.2 (e1))) (fun w97 S98 => ?_)
   simp only [pS, pN, pA, pC, pZ]
   refine do_ rfl (.bool true) (ex_not (b := false) rfl rfl) ?_
   simp only [pS, pN, pA, pC, pZ]
   refine do_ rfl (.bool true) (ex_move _) ?_
   simp only [pS, pN, pA, pC, pZ]
   refine doN (wanted_no rfl rfl rfl (c := true) rfl (by decide)) ?_
   simp only [pS, pN, pA, pC, pZ]
   refine doN (wanted_no rfl rfl rfl (c := true) rfl (by decide)) ?_
   simp only [pS, pN, pA, pC, pZ]
   refine doN (wanted_no rfl rfl rfl (c := true) rfl (by decide)) ?_
   simp only [pS, pN, pA, pC, pZ]
   refine doN (wanted_no rfl rfl rfl (c := true) rfl (by decide)) ?_
   simp only [pS, pN, pA, pC, pZ]
   refine doN (wanted_no rfl rfl rfl (c := true) rfl (by decide)) ?_
   simp only [pS, pN, pA, pC, pZ]
   refine do_ rfl (.bool true) (ex_pick (b := true) rfl) ?_
   simp only [pS, pN, pA, pC, pZ]
   refine do_ rfl (.bool true) (ex_move _) ?_
   simp only [pS, pN, pA, pC, pZ]
   refine doN (wanted_no rfl rfl rfl (c := true) rfl (by decide)) ?_
   simp only [pS, pN, pA, pC, pZ]
   refine doN (wanted_no rfl rfl rfl (c := true) rfl (by decide)) ?_
   simp only [pS, pN, pA, pC, pZ]
   refine doN (wanted_no rfl rfl rfl (c := true) rfl (by decide)) ?_
   simp only [pS, pN, pA, pC, pZ]
   refine doN (wanted_no rfl rfl rfl (c := true) rfl (by decide)) ?_
   simp only [pS, pN, pA, pC, pZ]
   refine doN (wanted_no rfl rfl rfl (c := true) rfl (by decide)) ?_
   simp only [pS, pN, pA, pC, pZ]
   refine do_ rfl (.bool true) (ex_pick (b := true) rfl) ?_
   simp only [pS, pN, pA, pC, pZ]
   refine wl_nil (hK61 _ _ ?_)
   refine wp_cond_true rfl ?_
   refine wp_exit ?_
   refine hK37 _ _ ?_
   refine region_wl ?_
   refine do_ rfl (.int .i64 (((i + 1) : Nat) : Int)) (ex_add (m := ((i : Nat) : Int)) (n := (1 : Int)) (r := (((i + 1) : Nat) : Int)) rfl rfl (by omega) (by omega) (by omega)) ?_
   simp only [pS, pN, pA, pC, pZ]
   refine do_ rfl (.int .i64 (((i + 1) : Nat) : Int)) (ex_move _) ?_
   simp only [pS, pN, pA, pC, pZ]
   refine wl_nil ?_
   have S98 := St.drop S98 (L' := [⟨n2, [(.int .i64 t.start), (.slice x0 t.reads.length y0), (.slice x1 t.writes.length y1)], 75⟩]) (.cons _ (List.Sublist.refl _))
   exact hK34 _ _ _ (by omega) ⟨(i + 1), m, v, F26, _, rfl, rfl, rfl, S98, le33, (by omega), hvm, okm, (scan_skip hp (by unfold inR; rw [beq_eq_false_iff_ne.2 e1]; rfl) hsm)⟩
 ·refine do_ rfl (.bool false) (ex_lss (m := ((i : Nat) : Int)) (n := ((t.writes.length : Nat) : Int)) (b := false) rfl rfl (decide_eq_false (by omega))) ?_
  simp only [pS, pN, pA, pC, pZ]
  refine wl_nil (hK35 _ _ ?_)
  refine wp_seq_k (fun K99 hK99 => ?_)
  refine wp_cond_false rfl ?_
  refine wp_exit ?_
  refine hK24 _ _ ?_
  refine wp_seq_k (fun K100 hK100 => region_wl ?_)
  refine do_ rfl v (ex_move _) ?_
  simp only [pS, pN, pA, pC, pZ]
  refine do_ rfl v (ex_assign _) ?_
  simp only [pS, pN, pA, pC, pZ]
  refine do_ rfl (.int .i64 0) (ex_assign _) ?_
  simp only [pS, pN, pA, pC, pZ]
  refine wl_nil (hK100 _ _ ?_)
  refine wp_ret ?_
  (try simp only [Exit.then, Exit.inBlock, ↓reduceIte, Nat.reduceEqDiff])
  refine bodyPost_ret (v := (.tuple #[v, (.int .i64 0)])) ?_ rfl ?_
  ·exact res_tt rfl rfl rfl
  ·have hend : m = R := by rw [List.drop_of_length_le (by omega)] at hsm; exact Option.some.inj hsm
   subst hend
   exact ⟨_, _, rfl, S32.gr, _, rfl, hvm⟩
set_option maxHeartbeats 8000000 in
theorem scanNil_spec (F : Fz) (w : World) (u v y x : Value) (l : Forest) (t : Tx) (n j : By) (hs : Sat w F) (hl : Tns F u l) (hv : TxV F v t) (hn : Bs F y n) (hj : Bs F x j) (hf : ForestOk 60 l) (ht : TxOk t) (hnn : 1 ≤ n.length ∧ n.length ≤ 8) :
    Calls Try.prog 49 #[u, v, y, .slice none 0 0, x] w (Gives w F (PrsE [] 1)) := by
 obtain ⟨a, c, rfl, hc1, hc2⟩ := Sl.shape hl
 unfold maxLen at hc2
 obtain ⟨x0, y0, x1, y1, rfl, h0, h1⟩ := hv
 obtain ⟨_, _, e0, q0, q1⟩ := Sl.shape h0
 obtain ⟨_, _, e1, q2, q3⟩ := Sl.shape h1
 injection e0 with _ _ e0
 injection e1 with _ _ e1
 subst e0 e1
 unfold maxLen at q1 q3
 obtain ⟨a2, c2, rfl, _⟩ := hn.shape
 obtain ⟨a4, c4, rfl, _⟩ := hj.shape
 have hb0 := bothE_ok.2 ⟨hf, ht⟩
 have hbw := fun r hr => (ht.writes r hr).small
 have S := St.start hs
 go_enter Try.func49, Try.ntmps49
 refine wp_seq_k (fun K1 hK1 => region_wl ?_)
 refine stNew S (v := fun n => .pointer (some ⟨n, 0, none⟩)) rfl (ex_box (v := (.agg #[(.int .i64 t.start), (.slice x0 t.reads.length y0), (.slice x1 t.writes.length y1)])) rfl) (fun n2 w3 S4 => ?_)
 simp only [pS, pN, pA, pC, pZ]
 have S4 : St w F w3 F [⟨n2, [(.int .i64 t.start), (.slice x0 t.reads.length y0), (.slice x1 t.writes.length y1)], 75⟩] [] := S4
 refine do_ rfl (.slice none 0 0) (ex_assign _) ?_
 simp only [pS, pN, pA, pC, pZ]
 refine do_ rfl (.int .i64 0) (ex_assign _) ?_
 simp only [pS, pN, pA, pC, pZ]
 refine wl_nil (hK1 _ _ ?_)
 refine wp_seq_k (fun K5 hK5 => ?_)
 refine wp_seq_k (fun K6 hK6 => region_wl ?_)
 refine do_ rfl (.slice a l.length c) (ex_move _) ?_
 simp only [pS, pN, pA, pC, pZ]
 refine do_ rfl (.agg #[(.int .i64 t.start), (.slice x0 t.reads.length y0), (.slice x1 t.writes.length y1)]) (ex_load rfl (loadN (cs := [(.int .i64 t.start), (.slice x0 t.reads.length y0), (.slice x1 t.writes.length y1)]) Try.underlying75 rfl (size_75) (St.range S4 (i := 0) rfl 0 [(.int .i64 t.start), (.slice x0 t.reads.length y0), (.slice x1 t.writes.length y1)] (sub_range 0 rfl)))) ?_
 simp only [pS, pN, pA, pC, pZ]
 refine stTells (v := (.int .i64 (bothE l t))) S4 rfl (ex_fn (vs := #[(.slice a l.length c), (.agg #[(.int .i64 t.start), (.slice x0 t.reads.length y0), (.slice x1 t.writes.length y1)])]) (map2 rfl rfl) rfl (ent_86 _ _)) (both_spec _ _ _ _ l t (S4).sat hl ⟨_, _, _, _, rfl, h0, h1⟩ hbw) (fun w7 S8 => ?_)
 simp only [pS, pN, pA, pC, pZ]
 refine do_ rfl (.int .i64 (bothE l t)) (ex_assign _) ?_
 simp only [pS, pN, pA, pC, pZ]
 refine wl_nil (hK6 _ _ ?_)
 refine wp_seq_k (fun K9 hK9 => region_wl ?_)
 refine do_ rfl (.int .i64 (bothE l t)) (ex_move _) ?_
 simp only [pS, pN, pA, pC, pZ]
 refine do_ rfl (.bool false) (ex_neq (m := (bothE l t)) (n := (0 : Int)) (b := false) rfl rfl (bne_eq_false_iff_eq.2 (hb0))) ?_
 simp only [pS, pN, pA, pC, pZ]
 refine wl_nil (hK9 _ _ ?_)
 refine wp_cond_false rfl ?_
 refine wp_skip ?_
 refine hK5 _ _ ?_
 refine wp_seq_k (fun K10 hK10 => region_wl ?_)
 refine do_ rfl (.slice a l.length c) (ex_move _) ?_
 simp only [pS, pN, pA, pC, pZ]
 refine do_ rfl (.slice a2 n.length c2) (ex_move _) ?_
 simp only [pS, pN, pA, pC, pZ]
 refine do_ rfl (.slice none 0 0) (ex_move _) ?_
 simp only [pS, pN, pA, pC, pZ]
 refine do_ rfl (.slice a4 j.length c4) (ex_move _) ?_
 simp only [pS, pN, pA, pC, pZ]
 refine stGives S8 rfl (ex_fn (vs := #[(.slice a l.length c), (.slice a2 n.length c2), (.slice none 0 0), (.slice a4 j.length c4)]) (map4 rfl rfl rfl rfl) rfl (ent_29 _ _)) (rangeFFrom_spec _ _ _ _ _ l n j (S8).sat hl hn hj hf hnn) ?_
 intro v16 w11 F13 S12 le14 R15
 obtain ⟨_, rfl, r19⟩ := R15
 obtain ⟨a17, c18, rfl, h20, h21⟩ := Sl.shape r19
 unfold maxLen at h21
 simp only [pS, pN, pA, pC, pZ]
 refine do_ rfl (.tuple #[(.slice a17 ([] : List Pr).length c18), (.int .i64 1)]) (ex_move _) ?_
 simp only [pS, pN, pA, pC, pZ]
 refine do_ rfl (.slice a17 ([] : List Pr).length c18) (ex_extract rfl rfl) ?_
 simp only [pS, pN, pA, pC, pZ]
 refine do_ rfl (.int .i64 1) (ex_extract rfl rfl) ?_
 simp only [pS, pN, pA, pC, pZ]
 refine do_ rfl (.slice a17 ([] : List Pr).length c18) (ex_assign _) ?_
 simp only [pS, pN, pA, pC, pZ]
 refine do_ rfl (.int .i64 1) (ex_assign _) ?_
 simp only [pS, pN, pA, pC, pZ]
 refine wl_nil (hK10 _ _ ?_)
 refine wp_seq_k (fun K22 hK22 => ?_)
 refine wp_seq_k (fun K23 hK23 => region_wl ?_)
 refine do_ rfl (.int .i64 1) (ex_move _) ?_
 simp only [pS, pN, pA, pC, pZ]
 refine do_ rfl (.bool true) (ex_neq (b := true) rfl rfl (by decide)) ?_
 simp only [pS, pN, pA, pC, pZ]
 refine wl_nil (hK23 _ _ ?_)
 refine wp_cond_true rfl ?_
 refine wp_seq_k (fun K24 hK24 => region_wl ?_)
 refine do_ rfl (.int .i64 1) (ex_move _) ?_
 simp only [pS, pN, pA, pC, pZ]
 refine do_ rfl (.slice none 0 0) (ex_assign _) ?_
 simp only [pS, pN, pA, pC, pZ]
 refine do_ rfl (.int .i64 1) (ex_assign _) ?_
 simp only [pS, pN, pA, pC, pZ]
 refine wl_nil (hK24 _ _ ?_)
 refine wp_ret ?_
 (try simp only [Exit.then, Exit.inBlock, ↓reduceIte, Nat.reduceEqDiff])
 refine bodyPost_ret (v := (.tuple #[(.slice none 0 0), (.int .i64 1)])) ?_ rfl ?_
 ·exact res_tt rfl rfl rfl
 ·exact ⟨_, _, rfl, S12.gr, _, rfl, Sl.nil _ _ _⟩
end Go.Proofs.Ytcpngkkconalhaa
namespace Go.Proofs.Ytcpngkkconalhaa
open Go.RowKit
set_option maxRecDepth 100000
set_option linter.unusedVariables false
set_option linter.unusedSimpArgs false
theorem lookIs_spec (F : Fz) (w : World) (u v y z : Value) (l : Forest) (t : Tx) (n k : By) {o : Option By} {b : Bool} (hs : Sat w F) (hl : Tns F u l) (hv : TxV F v t) (hn : Bs F y n) (hk : Bs F z k) (hf : ForestOk 60 l) (ht : TxOk t) (hnn : 1 ≤ n.length ∧ n.length ≤ 8) (hkk : 1 ≤ k.length ∧ k.length ≤ 16) (h : lookX l t n k = (o, b)) :
    Calls Try.prog 48 #[u, v, y, z] w (Gives w F (LookR o b 0)) := by
  have := look_spec F w u v y z l t n k hs hl hv hn hk hf ht hnn hkk
  rw [h] at this
  exact this
theorem FndV.fd {F : Fz} {u : Value} {p : Wr} (h : FndV F u (if p.gone then none else some p.value)) (hp : WrOk p) : FdV F u (!p.gone) p.value := by
  obtain ⟨a, c, rfl, h1⟩ := h
  cases hg : p.gone with
  | true =>
    rw [hg] at h1
    have := hp.gone hg
    rw [this]
    exact ⟨a, c, rfl, h1⟩
  | false => rw [hg] at h1; exact ⟨a, c, rfl, h1⟩
/-- What was written lies somewhere, the first one of its place. -/
theorem write_at {t u : Tx} {r : Wr} (e : writeX t r = some u) : ∃ i, ∃ hi : i < u.writes.length, u.writes[i] = r ∧ ∀ j (hj : j < i), samePl (u.writes[j]'(by omega)) r = false := by
  have hs : samePl r r = true := by simp [samePl]
  unfold writeX at e
  cases hf : idxW t.writes r with
  | some i =>
    rw [hf] at e
    cases e
    unfold idxW at hf
    obtain ⟨h1, h2, h3⟩ := List.findIdx?_eq_some_iff_getElem.1 hf
    refine ⟨i, by simpa using h1, by simp, fun j hj => ?_⟩
    rw [List.getElem_set_ne (by omega)]
    simpa using h3 j hj
  | none =>
    rw [hf] at e
    simp only at e
    split at e
    · cases e
    · cases e
      have h := idxW_none hf
      refine ⟨t.writes.length, by simp, by simp, fun j hj => ?_⟩
      rw [List.getElem_append_left hj]
      exact h _ (List.getElem_mem _)
theorem find_set {α : Type} {g : α → Bool} {x : α} (hx : g x = false) : ∀ {l : List α} {i : Nat}, (∀ y, l[i]? = some y → g y = false) → (l.set i x).find? g = l.find? g
  | [], _, _ => rfl
  | y :: l, 0, h => by
    have := h y rfl
    rw [List.set_cons_zero, List.find?_cons, List.find?_cons, hx, this]
  | y :: l, i + 1, h => by
    rw [List.set_cons_succ, List.find?_cons, List.find?_cons, find_set hx (l := l) (i := i) (fun z hz => h z (by simpa using hz))]
theorem own_self {t a : Tx} {r : Wr} (e : writeX t r = some a) : ownW a.writes r.name r.key = some r := by
  obtain ⟨i, hi, hr, hb⟩ := write_at e
  exact find_hit (k := i) (by rw [List.getElem?_eq_getElem hi, hr]) (any_take.2 fun j q hj hq => by
    obtain ⟨hj', rfl⟩ := List.getElem?_eq_some_iff.1 hq
    exact hb j hj) (by simp)
theorem own_else {t a : Tx} {r : Wr} (e : writeX t r = some a) {n k : By} (hd : ¬ (r.name = n ∧ r.key = k)) : ownW a.writes n k = ownW t.writes n k := by
  have hg : (r.name == n && r.key == k) = false := by
    rw [Bool.and_eq_false_iff, beq_eq_false_iff_ne, beq_eq_false_iff_ne]
    by_cases h : r.name = n
    · exact .inr fun h2 => hd ⟨h, h2⟩
    · exact .inl h
  unfold writeX at e
  cases hf : idxW t.writes r with
  | some i =>
    rw [hf] at e
    cases e
    obtain ⟨hi, hs⟩ := idxW_some hf
    refine find_set (g := fun w : Wr => w.name == n && w.key == k) (x := r) hg fun y hy => ?_
    rw [List.getElem?_eq_getElem hi] at hy
    cases hy
    have := samePl_iff.1 hs
    simp only [this.1, this.2]
    exact hg
  | none =>
    rw [hf] at e
    simp only at e
    split at e
    · cases e
    · cases e
      unfold ownW
      simp only
      rw [List.find?_append, List.find?_cons, hg]
      simp
end Go.Proofs.Ytcpngkkconalhaa
namespace Go.Proofs.Ytcpngkkconalhaa
open Go.RowKit
set_option linter.unusedVariables false
structure HL (P : Program) (ops : Array Oper) (Q : Exit → Act → World → Prop) (F : Fz) (fuel : Nat) (listed : Array Bool) (a : Act) (w : World) : Prop where
  out : Go.wpAnyH P .any ops Q (fun w => Sat w F) fuel listed a w
section
variable {P : Program} {ops : Array Oper} {Q : Exit → Act → World → Prop} {F : Fz} {fuel : Nat} {listed : Array Bool} {a : Act} {w : World} {o : Oper}
theorem region_hl {id : Nat} {l : List Oper} {w0 : World} {F0 : Fz} {L : List Blk} {M : List RowP} (S : St w0 F0 w F L M) (hm : P.follows .mixedOrders = true) (h : ∀ w', St w0 F0 w' F L M → HL P l.toArray Q F l.length (Array.replicate l.length false) a w') : (Code.region id l.toArray true).wp P Q a w := by
  have := (h { w with drawn := w.drawn + 1 } (S.tells (Below.refl w.heap.size w).drew)).out
  refine wp_region_held (S := fun w => Sat w F) hm ?_
  simpa using this
def canTake (ops : Array Oper) (listed : Array Bool) (i : Nat) : Bool := Region.noSelect ops && Region.free .any ops listed i && (Region.ready .any ops listed).contains i
theorem hl_take {l : List Oper} (i : Nat) (hi : l[i]? = some o) (hc : canTake l.toArray listed i = true) {v : Value} (hQ : ∀ c a w, Q (.panic c) (a.put o.dst v) w → Q (.panic c) a w) (hS : Sat w F) (hw : Region.wanted o (yielded l.toArray a.tmps) = true)
    (hr : ∀ w1, Sat w1 F → (execOp a.eval o).run P w1 = .ok (.value v) w1) (h : HL P l.toArray Q F fuel (listed.setIfInBounds i true) (a.put o.dst v) w) : HL P l.toArray Q F (fuel + 1) listed a w := by
  simp only [canTake, Bool.and_eq_true] at hc
  exact ⟨Go.wpAnyH_take (by simpa using hi) hc.1.1 hc.1.2 hc.2 hQ (.inl ⟨hw, hr⟩) hS h.out⟩
theorem hl_skip {l : List Oper} (i : Nat) (hi : l[i]? = some o) (hc : canTake l.toArray listed i = true) (hQ : ∀ c a w, Q (.panic c) (a.put o.dst undef) w → Q (.panic c) a w) (hS : Sat w F) (hw : Region.wanted o (yielded l.toArray a.tmps) = false)
    (h : HL P l.toArray Q F fuel (listed.setIfInBounds i true) (a.put o.dst undef) w) : HL P l.toArray Q F (fuel + 1) listed a w := by
  simp only [canTake, Bool.and_eq_true] at hc
  exact ⟨Go.wpAnyH_take (by simpa using hi) hc.1.1 hc.1.2 hc.2 hQ (.inr ⟨hw, rfl⟩) hS h.out⟩
theorem Oper.wp_exit {K K' : Act → World → Prop} (hh : o.wp P a w K (Exit.then K' Q)) : o.wp P a w K Q := by
  unfold Oper.wp at *
  generalize (execOp a.eval o).run P w = r at *
  cases r with
  | ok n w' =>
    cases n <;> simp only [Oper.upon] at hh ⊢ <;> try exact hh
  | halt x w' => cases x <;> exact hh
/-- The only one that may come up. -/
theorem hl_next {l : List Oper} (i : Nat) (hr : Region.ready .any l.toArray listed = [i]) (hi : l[i]? = some o) (h : WL P l.toArray (Exit.then (fun a' w' => Sat w' F ∧ Go.wpAnyH P .any l.toArray Q (fun w => Sat w F) fuel (listed.setIfInBounds i true) a' w') Q) [o] a w) : HL P l.toArray Q F (fuel + 1) listed a w := by
  refine ⟨Go.wpAnyH_all hr (by simp) fun j hj => ?_⟩
  have hji : j = i := by simpa using hj
  subst hji
  have h1 := h.out
  unfold wpList at h1
  unfold wpOp
  have hi' : l.toArray[j]? = some o := by simpa using hi
  simp only [hi']
  split
  · rename_i hw
    rw [if_pos hw] at h1
    rcases h1 with h1 | h1
    · left
      refine Oper.wp_mono (fun a' w' hk => ?_) (Oper.wp_exit h1)
      exact hk
    · exact .inr h1
  · rename_i hw
    rw [if_neg hw] at h1
    exact h1
theorem hl_back (hS : Sat w F) (h : HL P ops Q F fuel listed a w) : Exit.then (fun a' w' => Sat w' F ∧ Go.wpAnyH P .any ops Q (fun w => Sat w F) fuel listed a' w') Q .normal a w := ⟨hS, h.out⟩
theorem hl_done (hr : Region.ready .any ops listed = []) (h : Q .normal a w) : HL P ops Q F fuel listed a w := ⟨Go.wpAnyH_done hr h _⟩
end
end Go.Proofs.Ytcpngkkconalhaa
