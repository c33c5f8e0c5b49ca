/- Rules, plain laws and walks: TP7 TP8 TP9 -/
import Derived.Test.YtikklmjengkliaaDoorBT10
import Derived.Test.YtikklmjengkliaaDoorBT7
namespace Go.Proofs.YtikklmjengkliaaDoor
open Go.RowKit
set_option maxRecDepth 100000
set_option linter.unusedVariables false
set_option linter.unusedSimpArgs false
theorem u8_ne (a b : UInt8) : ((a.toNat : Int) != (b.toNat : Int)) = (a != b) := by
  by_cases h : a = b
  · subst h; simp
  · have : (a.toNat : Int) ≠ (b.toNat : Int) := fun e => h (UInt8.toNat_inj.1 (by omega))
    rw [bne_iff_ne.2 this, bne_iff_ne.2 h]
theorem take_more {l m : By} {k : Nat} {x y : UInt8} (h : l.take k = m.take k) (hx : l[k]? = some x) (hy : m[k]? = some y) (e : (x != y) = false) : l.take (k + 1) = m.take (k + 1) := by
  rw [take_snoc hx, take_snoc hy, h, bne_eq_false_iff_eq.1 e]
theorem eq_of_take {l m : By} {k : Nat} (h : l.take k = m.take k) (h1 : l.length ≤ k) (h2 : m.length ≤ k) : l = m := by
  rwa [List.take_of_length_le h1, List.take_of_length_le h2] at h
theorem take_less {l m : By} {k : Nat} {x y : UInt8} (hx : l[k]? = some x) (hy : m[k]? = some y) (e : (x != y) = true) : l ≠ m := fun h => by
  subst h; rw [hx] at hy; cases hy; simp at e
set_option maxHeartbeats 8000000 in
theorem slicesEqual_spec (F : Fz) (w : World) (v u : Value) (l m : By) (hs : Sat w F) (hv : Bs F v l) (hu : Bs F u m) :
    Calls Tryd.prog 60 #[v, u] w (Tells w (.bool (l == m))) := by
 obtain ⟨x, y, rfl, q1, q2⟩ := hv.shape
 obtain ⟨z, q, rfl, q3, q4⟩ := hu.shape
 unfold maxLen at q2 q4
 have S := St.start hs
 go_enter Tryd.func60, Tryd.ntmps60
 refine wp_seq_k (fun K1 hK1 => region_wl ?_)
 refine do_ rfl (.bool false) (ex_assign _) ?_
 simp only [pS, pN, pA, pC, pZ]
 refine wl_nil (hK1 _ _ ?_)
 refine wp_seq_k (fun K2 hK2 => ?_)
 refine wp_seq_k (fun K3 hK3 => region_wl ?_)
 refine do_ rfl (.slice x l.length y) (ex_move _) ?_
 simp only [pS, pN, pA, pC, pZ]
 refine do_ rfl (.int .i64 ((l.length : Nat) : Int)) (ex_len Tryd.underlying23 rfl) ?_
 simp only [pS, pN, pA, pC, pZ]
 refine do_ rfl (.slice z m.length q) (ex_move _) ?_
 simp only [pS, pN, pA, pC, pZ]
 refine do_ rfl (.int .i64 ((m.length : Nat) : Int)) (ex_len Tryd.underlying23 rfl) ?_
 simp only [pS, pN, pA, pC, pZ]
 by_cases hc10 : l.length = m.length
 ·refine do_ rfl (.bool false) (ex_neq (m := ((l.length : Nat) : Int)) (n := ((m.length : Nat) : Int)) (b := false) rfl rfl (bne_eq_false_iff_eq.2 (by omega))) ?_
  simp only [pS, pN, pA, pC, pZ]
  refine wl_nil (hK3 _ _ ?_)
  refine wp_cond_false rfl ?_
  refine wp_skip ?_
  refine hK2 _ _ ?_
  refine wp_seq_k (fun K4 hK4 => ?_)
  refine wp_seq_k (fun K5 hK5 => region_wl ?_)
  refine do_ rfl (.slice x l.length y) (ex_move _) ?_
  simp only [pS, pN, pA, pC, pZ]
  refine do_ rfl (.int .i64 ((l.length : Nat) : Int)) (ex_len Tryd.underlying23 rfl) ?_
  simp only [pS, pN, pA, pC, pZ]
  refine do_ rfl (.int .i64 0) (ex_move _) ?_
  simp only [pS, pN, pA, pC, pZ]
  refine wl_nil (hK5 _ _ ?_)
  refine wp_block ?_
  refine wp_loop_g (fun mm aa w7 => ∃ (k : Nat) (u6 : Nat → Value), mm = l.length - k ∧ u6 = slots aa ∧ aa = ⟨#[(.slice x l.length y), (.slice z m.length q), undef, undef, (u6 4), (u6 5), (.slice x l.length y), (.int .i64 ((l.length : Nat) : Int)), (.slice z m.length q), (.int .i64 ((m.length : Nat) : Int)), (.bool false), (.slice x l.length y), (.int .i64 ((l.length : Nat) : Int)), (.int .i64 ((k : Nat) : Int)), (u6 14), (u6 15), (u6 16), (u6 17), (u6 18), (u6 19), (u6 20), (u6 21), (u6 22), (u6 23), (u6 24), (u6 25)], []⟩ ∧ St w F w7 F [] [] ∧ (k ≤ l.length) ∧ (l.take k = m.take k)) _ ⟨0, _, rfl, rfl, rfl, S, (by omega), rfl⟩ ?_
  rintro m8 a9 w10 ⟨k, u6, rfl, -, rfl, S11, hk, hkk⟩ K13 hK13
  refine wp_seq_k (fun K14 hK14 => region_wl ?_)
  by_cases hc14 : k < l.length
  ·refine do_ rfl (.bool true) (ex_lss (m := ((k : Nat) : Int)) (n := ((l.length : Nat) : Int)) (b := true) rfl rfl (decide_eq_true (by omega))) ?_
   simp only [pS, pN, pA, pC, pZ]
   refine wl_nil (hK14 _ _ ?_)
   refine wp_seq_k (fun K15 hK15 => ?_)
   refine wp_cond_true rfl ?_
   refine wp_skip ?_
   refine hK15 _ _ ?_
   refine wp_seq_k (fun K16 hK16 => ?_)
   refine wp_block ?_
   refine wp_seq_k (fun K17 hK17 => region_wl ?_)
   refine do_ rfl (.int .i64 ((k : Nat) : Int)) (ex_move _) ?_
   simp only [pS, pN, pA, pC, pZ]
   refine do_ rfl (.int .i64 ((k : Nat) : Int)) (ex_assign _) ?_
   simp only [pS, pN, pA, pC, pZ]
   refine wl_nil (hK17 _ _ ?_)
   refine wp_seq_k (fun K18 hK18 => ?_)
   obtain ⟨x1, hx1⟩ : ∃ p, l[k]? = some p := ⟨l[k], List.getElem?_eq_getElem hc14⟩
   obtain ⟨y1, hy1⟩ : ∃ p, m[k]? = some p := ⟨m[k]'(by omega), List.getElem?_eq_getElem (by omega)⟩
   obtain ⟨b19, o20, ha21, c22⟩ := Bs.get hv hx1
   obtain ⟨b23, o24, ha25, c26⟩ := Bs.get hu hy1
   refine region_gw F 8 [] (by kernel_rfl) (by kernel_rfl) ?_
   simp only [List.take_succ_cons, List.take_zero]
   refine gw_pure rfl rfl (.slice x l.length y) (fun w27 hCw27 => pureAt_of (ex_move _)) ?_
   simp only [pS, pN, pA, pC, pZ]
   refine gw_pure rfl rfl (.int .i64 ((k : Nat) : Int)) (fun w27 hCw27 => pureAt_of (ex_move _)) ?_
   simp only [pS, pN, pA, pC, pZ]
   refine gw_pure rfl rfl (.pointer (some ⟨b19, o20 + k * 1, none⟩)) (fun w27 hCw27 => pureAt_of (ex_at (i := k) (sz := 1) Tryd.underlying23 (sizeof_5 _) rfl ha21 rfl (by omega) rfl)) ?_
   simp only [pS, pN, pA, pC, pZ]
   refine gw_pure rfl rfl (bv x1) (fun w27 hCw27 => pureAt_of (ex_load rfl (load1 (nagg_5 _) (St.fz (St.tells S11 hCw27) c22)))) ?_
   simp only [pS, pN, pA, pC, pZ]
   refine gw_pure rfl rfl (.slice z m.length q) (fun w27 hCw27 => pureAt_of (ex_move _)) ?_
   simp only [pS, pN, pA, pC, pZ]
   refine gw_pure rfl rfl (.int .i64 ((k : Nat) : Int)) (fun w27 hCw27 => pureAt_of (ex_move _)) ?_
   simp only [pS, pN, pA, pC, pZ]
   refine gw_pure rfl rfl (.pointer (some ⟨b23, o24 + k * 1, none⟩)) (fun w27 hCw27 => pureAt_of (ex_at (i := k) (sz := 1) Tryd.underlying23 (sizeof_5 _) rfl ha25 rfl (by omega) rfl)) ?_
   simp only [pS, pN, pA, pC, pZ]
   refine gw_pure rfl rfl (bv y1) (fun w27 hCw27 => pureAt_of (ex_load rfl (load1 (nagg_5 _) (St.fz (St.tells S11 hCw27) c26)))) ?_
   simp only [pS, pN, pA, pC, pZ]
   refine gw_nil ?_
   intro w28 hC30 hF31
   clear hF31
   have S29 := St.tells S11 hC30
   simp only [List.drop_succ_cons, List.drop_zero]
   refine do_ rfl (.bool (x1 != y1)) (ex_neq (k := .u8) rfl rfl (u8_ne x1 y1)) ?_
   simp only [pS, pN, pA, pC, pZ]
   refine wl_nil (hK18 _ _ ?_)
   refine wp_cond_split rfl (fun hc32 => ?_) (fun hc32 => ?_)
   ·refine wp_seq_k (fun K33 hK33 => region_wl ?_)
    refine do_ rfl (.bool false) (ex_assign _) ?_
    simp only [pS, pN, pA, pC, pZ]
    refine wl_nil (hK33 _ _ ?_)
    refine wp_ret ?_
    (try simp only [Exit.then, Exit.inBlock, ↓reduceIte, Nat.reduceEqDiff])
    refine bodyPost_ret (v := (.bool false)) ?_ rfl ?_
    ·exact res_t rfl rfl
    ·have hb : (l == m) = false := by have := take_less hx1 hy1 hc32; simp [this]
     rw [hb]
     exact ⟨rfl, S29.gr.below⟩
   ·refine wp_skip ?_
    refine hK16 _ _ ?_
    refine region_wl ?_
    refine do_ rfl (.int .i64 (((k + 1) : Nat) : Int)) (ex_add (m := ((k : Nat) : Int)) (n := (1 : Int)) (r := (((k + 1) : Nat) : Int)) rfl rfl (by omega) (by omega) (by omega)) ?_
    simp only [pS, pN, pA, pC, pZ]
    refine do_ rfl (.int .i64 (((k + 1) : Nat) : Int)) (ex_move _) ?_
    simp only [pS, pN, pA, pC, pZ]
    refine wl_nil ?_
    exact hK13 _ _ _ (by omega) ⟨(k + 1), _, rfl, rfl, rfl, S29, (by omega), (take_more hkk hx1 hy1 hc32)⟩
  ·refine do_ rfl (.bool false) (ex_lss (m := ((k : Nat) : Int)) (n := ((l.length : Nat) : Int)) (b := false) rfl rfl (decide_eq_false (by omega))) ?_
   simp only [pS, pN, pA, pC, pZ]
   refine wl_nil (hK14 _ _ ?_)
   refine wp_seq_k (fun K34 hK34 => ?_)
   refine wp_cond_false rfl ?_
   refine wp_exit ?_
   refine hK4 _ _ ?_
   refine wp_seq_k (fun K35 hK35 => region_wl ?_)
   refine do_ rfl (.bool true) (ex_assign _) ?_
   simp only [pS, pN, pA, pC, pZ]
   refine wl_nil (hK35 _ _ ?_)
   refine wp_ret ?_
   (try simp only [Exit.then, Exit.inBlock, ↓reduceIte, Nat.reduceEqDiff])
   refine bodyPost_ret (v := (.bool true)) ?_ rfl ?_
   ·exact res_t rfl rfl
   ·have hb : (l == m) = true := by have := eq_of_take hkk (by omega) (by omega); rw [this]; simp
    rw [hb]
    exact ⟨rfl, S11.gr.below⟩
 ·refine do_ rfl (.bool true) (ex_neq (m := ((l.length : Nat) : Int)) (n := ((m.length : Nat) : Int)) (b := true) rfl rfl (bne_iff_ne.2 (by omega))) ?_
  simp only [pS, pN, pA, pC, pZ]
  refine wl_nil (hK3 _ _ ?_)
  refine wp_cond_true rfl ?_
  refine wp_seq_k (fun K36 hK36 => region_wl ?_)
  refine do_ rfl (.bool false) (ex_assign _) ?_
  simp only [pS, pN, pA, pC, pZ]
  refine wl_nil (hK36 _ _ ?_)
  refine wp_ret ?_
  (try simp only [Exit.then, Exit.inBlock, ↓reduceIte, Nat.reduceEqDiff])
  refine bodyPost_ret (v := (.bool false)) ?_ rfl ?_
  ·exact res_t rfl rfl
  ·have hb : (l == m) = false := by have : l ≠ m := fun e => hc10 (by rw [e]); simp [this]
   rw [hb]
   exact ⟨rfl, S.gr.below⟩
theorem chunk_num {r : By} {k n : Nat} {x y : UInt8} (h0 : r[0]? = some x) (h1 : r[1]? = some y) (hn : 2 + x.toNat * 256 + y.toNat = n) :
    chunkR r k = if 4000 < n ∨ r.length < n + 4 then none else if (sumL (r.take n)).take 4 ≠ (r.drop n).take 4 then none else if decE ((r.take n).drop 2) ≠ 0 ∨ (decC ((r.take n).drop 2)).turn ≠ k + 1 then none else some (decC ((r.take n).drop 2), n + 4) := by
  have e0 : r.getD 0 0 = x := by rw [List.getD_eq_getElem?_getD, h0]; rfl
  have e1 : r.getD 1 0 = y := by rw [List.getD_eq_getElem?_getD, h1]; rfl
  have hl : ¬ r.length < 2 := by obtain ⟨h, _⟩ := List.getElem?_eq_some_iff.1 h1; omega
  unfold chunkR
  rw [if_neg hl, e0, e1, hn]
theorem rec_end {d : By} {out : List Cm} {at_ f : Nat} {r : By} (h : (out ++ (recL f r out.length).1, at_ + (recL f r out.length).2) = recT d) (hc : chunkR r out.length = none) : recT d = (out, at_) := by
  rw [recL_none hc] at h
  simpa using h.symm
theorem rec_step {d : By} {out : List Cm} {at_ f n : Nat} {m : Cm} (h : (out ++ (recL (f + 1) (d.drop at_) out.length).1, at_ + (recL (f + 1) (d.drop at_) out.length).2) = recT d) (hc : chunkR (d.drop at_) out.length = some (m, n)) :
    ((out ++ [m]) ++ (recL f (d.drop (at_ + n)) (out ++ [m]).length).1, (at_ + n) + (recL f (d.drop (at_ + n)) (out ++ [m]).length).2) = recT d := by
  rw [recL_some hc] at h
  simp only [List.drop_drop] at h
  rw [← h, List.length_append, List.append_assoc, Nat.add_assoc]
  rfl
theorem Bs.mid {F : Fz} {a : Option Addr} {m c n i : Nat} {l : By} (h : Bs F (.slice a m c) l) (h1 : i ≤ n) (hn : n ≤ m) : Bs F (.slice (if c = i then a else a.map (·.add (i * 1))) (n - i) (c - i)) ((l.take n).drop i) := bs_of_sl (Sl.cut2 (by decide) h.sl h1 hn)
def RecR (t : Tp) (F : Fz) (u : Value) : Prop := ∃ v a c, u = .tuple #[v, .agg #[.slice a (recT t.data).2 c, .int .i64 ((min t.synced (recT t.data).2 : Nat))], .int .i64 0] ∧ Cms F v (recT t.data).1 ∧ Bs F (.slice a (recT t.data).2 c) (t.data.take (recT t.data).2)
set_option maxHeartbeats 8000000 in
theorem recover_spec (F : Fz) (w : World) (v : Value) (t : Tp) (hs : Sat w F) (hT : Tabs w) (hv : TpV F v t) (ok : TpOk 100000 t) :
    Calls Tryd.prog 32 #[v] w (Gives w F (RecR t)) := by
 obtain ⟨x, y, rfl, hv⟩ := hv
 have h1' := ok.len
 have h2' := ok.syn
 obtain ⟨i5, hi5, hz5, hs5, hb5⟩ := info_parts infoU8
 obtain ⟨i72, hi72, hz72, hs72, hb72⟩ := info_parts info_72
 have S := St.start hs
 go_enter Tryd.func32, Tryd.ntmps32
 refine wp_seq_k (fun K1 hK1 => region_wl ?_)
 refine stNew S (v := fun n => .pointer (some ⟨n, 0, none⟩)) rfl (ex_box (v := (.agg #[(.slice x t.data.length y), (.int .i64 ((t.synced : Nat) : Int))])) rfl) (fun n2 w3 S4 => ?_)
 simp only [pS, pN, pA, pC, pZ]
 have S4 : St w F w3 F [⟨n2, [(.slice x t.data.length y), (.int .i64 ((t.synced : Nat) : Int))], 67⟩] [] := S4
 refine do_ rfl (.slice none 0 0) (ex_assign _) ?_
 simp only [pS, pN, pA, pC, pZ]
 refine stNew S4 (v := fun n => .pointer (some ⟨n, 0, none⟩)) rfl (ex_alloc (zero_67 _)) (fun n5 w6 S7 => ?_)
 simp only [pS, pN, pA, pC, pZ]
 have S7 : St w F w6 F [⟨n5, [(.slice none 0 0), (.int .i64 0)], 67⟩, ⟨n2, [(.slice x t.data.length y), (.int .i64 ((t.synced : Nat) : Int))], 67⟩] [] := S7
 refine do_ rfl (.int .i64 0) (ex_assign _) ?_
 simp only [pS, pN, pA, pC, pZ]
 refine wl_nil (hK1 _ _ ?_)
 refine wp_seq_k (fun K8 hK8 => region_wl ?_)
 refine do_ rfl (.agg #[(.slice x t.data.length y), (.int .i64 ((t.synced : Nat) : Int))]) (ex_load rfl (loadN (cs := [(.slice x t.data.length y), (.int .i64 ((t.synced : Nat) : Int))]) Tryd.underlying67 rfl (size_67) (St.range S7 (i := 1) rfl 0 [(.slice x t.data.length y), (.int .i64 ((t.synced : Nat) : Int))] (sub_range 0 rfl)))) ?_
 simp only [pS, pN, pA, pC, pZ]
 refine stGivesTp S7 rfl (ex_fn (vs := #[(.agg #[(.slice x t.data.length y), (.int .i64 ((t.synced : Nat) : Int))])]) (map1 rfl) rfl (ent_58 _ _)) (open_spec _ _ _ t (S7).sat ⟨_, _, rfl, hv⟩ ok) ?_
 intro v9 w10 F11 S12 le13
 simp only [pS, pN, pA, pC, pZ]
 have S12 : St w F w10 F11 [⟨n5, [(.slice none 0 0), (.int .i64 0)], 67⟩, ⟨n2, [(.slice x t.data.length y), (.int .i64 ((t.synced : Nat) : Int))], 67⟩] [ownP 1 ByC ByC.mono 5 w.heap.size v9 t.data] := S12
 obtain ⟨a14, cap15, rfl, h16, h17⟩ := (S12.own (i := 0) rfl).shape
 unfold maxLen at h17
 refine do_ rfl (.tuple #[(.agg #[(.slice a14 t.data.length cap15), (.int .i64 ((t.synced : Nat) : Int))]), (.bool true)]) (ex_move _) ?_
 simp only [pS, pN, pA, pC, pZ]
 refine do_ rfl (.agg #[(.slice a14 t.data.length cap15), (.int .i64 ((t.synced : Nat) : Int))]) (ex_extract rfl rfl) ?_
 simp only [pS, pN, pA, pC, pZ]
 refine do_ rfl (.bool true) (ex_extract rfl rfl) ?_
 simp only [pS, pN, pA, pC, pZ]
 refine stNew S12 (v := fun n => .pointer (some ⟨n, 0, none⟩)) rfl (ex_alloc (zero_67 _)) (fun n18 w19 S20 => ?_)
 simp only [pS, pN, pA, pC, pZ]
 have S20 : St w F w19 F11 [⟨n18, [(.slice none 0 0), (.int .i64 0)], 67⟩, ⟨n5, [(.slice none 0 0), (.int .i64 0)], 67⟩, ⟨n2, [(.slice x t.data.length y), (.int .i64 ((t.synced : Nat) : Int))], 67⟩] [ownP 1 ByC ByC.mono 5 w.heap.size (.slice a14 t.data.length cap15) t.data] := S20
 refine stStore (i := 0) (v := (.agg #[(.slice a14 t.data.length cap15), (.int .i64 ((t.synced : Nat) : Int))])) S20 rfl rfl rfl rfl (size_67) (allc2 rfl rfl) (Nat.le_of_ble_eq_true rfl) (fun w21 S22 => ?_)
 simp only [pS, pN, pA, pC, pZ]
 have S22 : St w F w21 F11 [⟨n18, [(.slice a14 t.data.length cap15), (.int .i64 ((t.synced : Nat) : Int))], 67⟩, ⟨n5, [(.slice none 0 0), (.int .i64 0)], 67⟩, ⟨n2, [(.slice x t.data.length y), (.int .i64 ((t.synced : Nat) : Int))], 67⟩] [ownP 1 ByC ByC.mono 5 w.heap.size (.slice a14 t.data.length cap15) t.data] := S22
 refine do_ rfl (.bool true) (ex_assign _) ?_
 simp only [pS, pN, pA, pC, pZ]
 refine wl_nil (hK8 _ _ ?_)
 refine wp_seq_k (fun K23 hK23 => ?_)
 refine wp_seq_k (fun K24 hK24 => region_wl ?_)
 refine do_ rfl (.bool true) (ex_move _) ?_
 simp only [pS, pN, pA, pC, pZ]
 refine do_ rfl (.bool false) (ex_not (b := true) rfl rfl) ?_
 simp only [pS, pN, pA, pC, pZ]
 refine wl_nil (hK24 _ _ ?_)
 refine wp_cond_false rfl ?_
 refine wp_skip ?_
 refine hK23 _ _ ?_
 refine wp_seq_k (fun K25 hK25 => ?_)
 obtain ⟨F26, S27, le28, hv29⟩ := St.freeze S22 (i := 0) rfl (Nat.le_refl _)
 have S27 : St w F w21 F26 [⟨n18, [(.slice a14 t.data.length cap15), (.int .i64 ((t.synced : Nat) : Int))], 67⟩, ⟨n5, [(.slice none 0 0), (.int .i64 0)], 67⟩, ⟨n2, [(.slice x t.data.length y), (.int .i64 ((t.synced : Nat) : Int))], 67⟩] [] := S27
 have hv29 : Bys _ (.slice a14 t.data.length cap15) t.data := hv29
 have r30 := bs_of_sl hv29
 have hdc : t.data.length ≤ cap15 := by obtain ⟨_, _, e, q, _⟩ := r30.shape; simp only [Value.slice.injEq] at e; omega
 refine region_wl ?_
 refine do_ rfl (.slice none 0 0) (ex_assign _) ?_
 simp only [pS, pN, pA, pC, pZ]
 refine wl_nil (hK25 _ _ ?_)
 refine wp_seq_k (fun K31 hK31 => region_wl ?_)
 refine do_ rfl (.int .i64 0) (ex_assign _) ?_
 simp only [pS, pN, pA, pC, pZ]
 refine wl_nil (hK31 _ _ ?_)
 refine wp_seq_k (fun K32 hK32 => ?_)
 refine wp_block ?_
 have S33 := St.addNil S27 2 CmC CmC.mono 72 w.heap.size
 refine wp_loop_g (fun mm aa w36 => ∃ (at_ : Nat) (rv : Value) (out : List Cm) (f_ : Nat) (F34 : Fz) (u35 : Nat → Value), mm = t.data.length - at_ ∧ u35 = slots aa ∧ aa = ⟨#[(.agg #[(.slice x t.data.length y), (.int .i64 ((t.synced : Nat) : Int))]), (.pointer (some ⟨n2, 0, none⟩)), (.slice none 0 0), (.pointer (some ⟨n5, 0, none⟩)), (.int .i64 0), (.pointer (some ⟨n18, 0, none⟩)), (.bool true), rv, (.int .i64 ((at_ : Nat) : Int)), (u35 9), (u35 10), (u35 11), (u35 12), (u35 13), (u35 14), (.tuple #[(.agg #[(.slice a14 t.data.length cap15), (.int .i64 ((t.synced : Nat) : Int))]), (.bool true)]), (.agg #[(.slice x t.data.length y), (.int .i64 ((t.synced : Nat) : Int))]), (.tuple #[(.agg #[(.slice a14 t.data.length cap15), (.int .i64 ((t.synced : Nat) : Int))]), (.bool true)]), (.agg #[(.slice a14 t.data.length cap15), (.int .i64 ((t.synced : Nat) : Int))]), (.bool true), (.bool true), (.bool false), undef, (u35 23), (u35 24), (u35 25), (u35 26), (u35 27), (u35 28), (u35 29), (u35 30), (u35 31), (u35 32), (u35 33), (u35 34), (u35 35), (u35 36), (u35 37), (u35 38), (u35 39), (u35 40), (u35 41), (u35 42), (u35 43), (u35 44), (u35 45), (u35 46), (u35 47), (u35 48), (u35 49), (u35 50), (u35 51), (u35 52), (u35 53), (u35 54), (u35 55), (u35 56), (u35 57), (u35 58), (u35 59), (u35 60), (u35 61), (u35 62), (u35 63), (u35 64), (u35 65), (u35 66), (u35 67), (u35 68), (u35 69), (u35 70), (u35 71), (u35 72), (u35 73), (u35 74), (u35 75), (u35 76), (u35 77), (u35 78), (u35 79), (u35 80), (u35 81), (u35 82), (u35 83), (u35 84), (u35 85), (u35 86), (u35 87), (u35 88), (u35 89), (u35 90), undef, undef, undef, undef, undef, undef, undef, undef, undef, undef, undef], []⟩ ∧ St w F w36 F34 [⟨n18, [(.slice a14 t.data.length cap15), (.int .i64 ((t.synced : Nat) : Int))], 67⟩, ⟨n5, [(.slice none 0 0), (.int .i64 0)], 67⟩, ⟨n2, [(.slice x t.data.length y), (.int .i64 ((t.synced : Nat) : Int))], 67⟩] [ownP 2 CmC CmC.mono 72 w.heap.size rv out] ∧ Le F26 F34 ∧ (at_ ≤ t.data.length) ∧ ((out ++ (recL f_ (t.data.drop at_) out.length).1, at_ + (recL f_ (t.data.drop at_) out.length).2) = recT t.data) ∧ (t.data.length - at_ ≤ f_) ∧ (6 * out.length ≤ at_)) _ ⟨0, (.slice none 0 0), [], t.data.length, F26, _, rfl, rfl, rfl, S33, Le.refl _, (Nat.zero_le _), (by unfold recT; simp), (by omega), (by simp)⟩ ?_
 rintro m37 a38 w39 ⟨at_, rv, out, f_, F34, u35, rfl, -, rfl, S40, le41, hat, hinv, hf, hol⟩ K42 hK42
 refine wp_block ?_
 refine wp_seq_k (fun K43 hK43 => region_wl ?_)
 refine do_ rfl (.pointer (some ⟨n18, 0, none⟩)) (ex_field (q := ⟨n18, 0, none⟩) rfl (fa_67_0 _ _)) ?_
 simp only [pS, pN, pA, pC, pZ]
 refine do_ rfl (.slice a14 t.data.length cap15) (ex_load rfl (load1 (nagg_23 _) (St.cell S40 (i := 0) rfl rfl))) ?_
 simp only [pS, pN, pA, pC, pZ]
 refine do_ rfl (.int .i64 ((at_ : Nat) : Int)) (ex_move _) ?_
 simp only [pS, pN, pA, pC, pZ]
 have hrest : Bs _ (.slice (if cap15 = at_ then a14 else a14.map (·.add (at_ * 1))) (t.data.length - at_) (cap15 - at_)) (t.data.drop at_) := Bs.rest (r30.mono le41) (by omega)
 refine do_ rfl (.slice (if cap15 = at_ then a14 else a14.map (·.add (at_ * 1))) (t.data.length - at_) (cap15 - at_)) (ex_slice (l := at_) (h := t.data.length) (sz := 1) Tryd.underlying23 rfl (sizeof_5 _) (.inr ⟨_, rfl, rfl⟩) (.inl ⟨rfl, rfl⟩) (by omega) (by omega) (rfl)) ?_
 simp only [pS, pN, pA, pC, pZ]
 refine do_ rfl (.slice (if cap15 = at_ then a14 else a14.map (·.add (at_ * 1))) (t.data.length - at_) (cap15 - at_)) (ex_assign _) ?_
 simp only [pS, pN, pA, pC, pZ]
 refine wl_nil (hK43 _ _ ?_)
 refine wp_seq_k (fun K44 hK44 => ?_)
 refine wp_seq_k (fun K45 hK45 => ?_)
 obtain ⟨rest, hre⟩ : ∃ r, r = t.data.drop at_ := ⟨_, rfl⟩
 rw [← hre] at hrest
 have hrl : rest.length = (t.data.length - at_) := by rw [hre, List.length_drop]
 obtain ⟨ra, hra⟩ : ∃ a, (if cap15 = at_ then a14 else a14.map (·.add (at_ * 1))) = a := ⟨_, rfl⟩
 obtain ⟨rn, hrn⟩ : ∃ a, (t.data.length - at_) = a := ⟨_, rfl⟩
 obtain ⟨rc, hrc⟩ : ∃ a, (cap15 - at_) = a := ⟨_, rfl⟩
 rw [hra, hrn, hrc] at hrest
 rw [hra, hrn, hrc]
 have hcc : rn ≤ rc := by omega
 refine region_wl ?_
 refine do_ rfl (.slice ra rn rc) (ex_move _) ?_
 simp only [pS, pN, pA, pC, pZ]
 refine do_ rfl (.int .i64 ((rn : Nat) : Int)) (ex_len Tryd.underlying23 rfl) ?_
 simp only [pS, pN, pA, pC, pZ]
 by_cases hc29 : rn < 2
 ·refine do_ rfl (.bool true) (ex_lss (m := ((rn : Nat) : Int)) (n := (2 : Int)) (b := true) rfl rfl (decide_eq_true (by omega))) ?_
  simp only [pS, pN, pA, pC, pZ]
  refine wl_nil (hK45 _ _ ?_)
  refine wp_cond_true rfl ?_
  refine wp_exit ?_
  refine hK32 _ _ ?_
  refine wp_seq_k (fun K46 hK46 => ?_)
  have hrt := rec_end hinv (by rw [← hre]; unfold chunkR; rw [if_pos (by omega)])
  have r47 : Bs _ (.slice a14 at_ at_) (t.data.take at_) := Bs.cut (r30.mono le41) hat
  obtain ⟨S48, le49, hc50⟩ := St.freezeBlk S40 (i := 0) rfl
  generalize addF F34 w39 n18 = F51 at *
  have S48 : St w F w39 F51 [⟨n5, [(.slice none 0 0), (.int .i64 0)], 67⟩, ⟨n2, [(.slice x t.data.length y), (.int .i64 ((t.synced : Nat) : Int))], 67⟩] [ownP 2 CmC CmC.mono 72 w.heap.size rv out] := S48
  refine region_hl S48 (by kernel_rfl) (fun w53 S52 => ?_)
  refine hl_take 0 rfl (by kernel_rfl) (v := rv) (fun _ _ _ h => h) S52.sat rfl (fun w54 hs55 => ex_move _) ?_
  simp only [pS, pN, pA, pC, pZ]
  refine hl_take 1 rfl (by kernel_rfl) (v := (.pointer (some ⟨n18, 0, none⟩))) (fun _ _ _ h => h) S52.sat rfl (fun w56 hs57 => ex_field (q := ⟨n18, 0, none⟩) rfl (fa_67_0 _ _)) ?_
  simp only [pS, pN, pA, pC, pZ]
  refine hl_take 2 rfl (by kernel_rfl) (v := (.slice a14 t.data.length cap15)) (fun _ _ _ h => h) S52.sat rfl (fun w58 hs59 => ex_load rfl (load1 (nagg_23 _) (St.fz (St.start hs59) (hc50 0 _ rfl)))) ?_
  simp only [pS, pN, pA, pC, pZ]
  refine hl_take 3 rfl (by kernel_rfl) (v := (.int .i64 ((at_ : Nat) : Int))) (fun _ _ _ h => h) S52.sat rfl (fun w60 hs61 => ex_move _) ?_
  simp only [pS, pN, pA, pC, pZ]
  refine hl_take 4 rfl (by kernel_rfl) (v := (.int .i64 ((at_ : Nat) : Int))) (fun _ _ _ h => h) S52.sat rfl (fun w62 hs63 => ex_move _) ?_
  simp only [pS, pN, pA, pC, pZ]
  refine hl_take 5 rfl (by kernel_rfl) (v := (.slice a14 at_ at_)) (fun _ _ _ h => h) S52.sat rfl (fun w64 hs65 => ex_slice3_0 (h := at_) (m := at_) (sz := 1) Tryd.underlying23 rfl (sizeof_5 _) rfl rfl (by omega) (by omega) rfl) ?_
  simp only [pS, pN, pA, pC, pZ]
  refine hl_take 6 rfl (by kernel_rfl) (v := (.pointer (some ⟨n18, 1, none⟩))) (fun _ _ _ h => h) S52.sat rfl (fun w66 hs67 => ex_field (q := ⟨n18, 1, none⟩) rfl (fa_67_1 _ _)) ?_
  simp only [pS, pN, pA, pC, pZ]
  refine hl_take 7 rfl (by kernel_rfl) (v := (.int .i64 ((t.synced : Nat) : Int))) (fun _ _ _ h => h) S52.sat rfl (fun w68 hs69 => ex_load rfl (load1 (nagg_3 _) (St.fz (St.start hs69) (hc50 1 _ rfl)))) ?_
  simp only [pS, pN, pA, pC, pZ]
  refine hl_take 8 rfl (by kernel_rfl) (v := (.int .i64 ((at_ : Nat) : Int))) (fun _ _ _ h => h) S52.sat rfl (fun w70 hs71 => ex_move _) ?_
  simp only [pS, pN, pA, pC, pZ]
  refine hl_take 11 rfl (by kernel_rfl) (v := rv) (fun _ _ _ h => h) S52.sat rfl (fun w72 hs73 => ex_assign _) ?_
  simp only [pS, pN, pA, pC, pZ]
  refine hl_next 9 (by kernel_rfl) rfl ?_
  refine do_ rfl (.int .i64 (((min t.synced at_) : Nat) : Int)) (ex_min (m := ((t.synced : Nat) : Int)) (n := ((at_ : Nat) : Int)) (r := (((min t.synced at_) : Nat) : Int)) rfl rfl (by omega)) ?_
  simp only [pS, pN, pA, pC, pZ]
  refine wl_nil (hl_back S52.sat ?_)
  refine hl_take 10 rfl (by kernel_rfl) (v := (.agg #[(.slice a14 at_ at_), (.int .i64 (((min t.synced at_) : Nat) : Int))])) (fun _ _ _ h => h) S52.sat rfl (fun w74 hs75 => ex_build (ps := #[(0, (.slice a14 at_ at_)), (1, (.int .i64 (((min t.synced at_) : Nat) : Int)))]) (bmap2 rfl rfl) (by kernel_rfl)) ?_
  simp only [pS, pN, pA, pC, pZ]
  refine hl_next 12 (by kernel_rfl) rfl ?_
  refine stStore (i := 0) (v := (.agg #[(.slice a14 at_ at_), (.int .i64 (((min t.synced at_) : Nat) : Int))])) S52 rfl rfl rfl rfl (size_67) (allc2 rfl rfl) (Nat.le_of_ble_eq_true rfl) (fun w76 S77 => ?_)
  simp only [pS, pN, pA, pC, pZ]
  have S77 : St w F w76 F51 [⟨n5, [(.slice a14 at_ at_), (.int .i64 (((min t.synced at_) : Nat) : Int))], 67⟩, ⟨n2, [(.slice x t.data.length y), (.int .i64 ((t.synced : Nat) : Int))], 67⟩] [ownP 2 CmC CmC.mono 72 w.heap.size rv out] := S77
  refine wl_nil (hl_back S77.sat ?_)
  refine hl_take 13 rfl (by kernel_rfl) (v := (.int .i64 0)) (fun _ _ _ h => h) S77.sat rfl (fun w78 hs79 => ex_assign _) ?_
  simp only [pS, pN, pA, pC, pZ]
  refine hl_done (by kernel_rfl) ?_
  refine hK46 _ _ ?_
  refine wp_ret ?_
  (try simp only [Exit.then, Exit.inBlock, ↓reduceIte, Nat.reduceEqDiff])
  refine bodyPost_ret (v := (.tuple #[rv, (.agg #[(.slice a14 at_ at_), (.int .i64 (((min t.synced at_) : Nat) : Int))]), (.int .i64 0)])) ?_ rfl ?_
  ·exact res_tct rfl rfl ⟨_, rfl, loadN (cs := [(.slice a14 at_ at_), (.int .i64 (((min t.synced at_) : Nat) : Int))]) Tryd.underlying67 rfl (size_67) (St.range S77 (i := 0) rfl 0 [(.slice a14 at_ at_), (.int .i64 (((min t.synced at_) : Nat) : Int))] (sub_range 0 rfl))⟩ rfl
  ·obtain ⟨F80, S81, le82, hv83⟩ := St.freeze S77 (i := 0) rfl (Nat.le_refl _)
   have S81 : St w F w76 F80 [⟨n5, [(.slice a14 at_ at_), (.int .i64 (((min t.synced at_) : Nat) : Int))], 67⟩, ⟨n2, [(.slice x t.data.length y), (.int .i64 ((t.synced : Nat) : Int))], 67⟩] [] := S81
   have hv83 : Cms _ rv out := hv83
   refine ⟨_, _, rfl, S81.gr, _, _, _, by rw [hrt], by rw [hrt]; exact hv83, by rw [hrt]; exact (r47.mono (le49.trans le82))⟩
 ·refine do_ rfl (.bool false) (ex_lss (m := ((rn : Nat) : Int)) (n := (2 : Int)) (b := false) rfl rfl (decide_eq_false (by omega))) ?_
  simp only [pS, pN, pA, pC, pZ]
  refine wl_nil (hK45 _ _ ?_)
  refine wp_cond_false rfl ?_
  refine wp_skip ?_
  refine hK44 _ _ ?_
  refine wp_seq_k (fun K84 hK84 => ?_)
  obtain ⟨b0, hb0⟩ : ∃ p, rest[0]? = some p := ⟨rest[0], List.getElem?_eq_getElem (by omega)⟩
  obtain ⟨b1, hb1⟩ : ∃ p, rest[1]? = some p := ⟨rest[1], List.getElem?_eq_getElem (by omega)⟩
  have hb0l := UInt8.toNat_lt b0
  have hb1l := UInt8.toNat_lt b1
  obtain ⟨b85, o86, ha87, c88⟩ := Bs.get hrest hb0
  obtain ⟨b89, o90, ha91, c92⟩ := Bs.get hrest hb1
  have hq_ := ha91.symm.trans ha87; injection hq_ with hq_; injection hq_ with hq1_ hq2_; rw [hq1_, hq2_] at c92
  refine region_gw F34 10 [] (by kernel_rfl) (by kernel_rfl) ?_
  simp only [List.take_succ_cons, List.take_zero]
  refine gw_pure rfl rfl (.slice ra rn rc) (fun w93 hCw93 => pureAt_of (ex_move _)) ?_
  simp only [pS, pN, pA, pC, pZ]
  refine gw_pure rfl rfl (.pointer (some ⟨b85, o86 + 0 * 1, none⟩)) (fun w93 hCw93 => pureAt_of (ex_at (i := 0) (sz := 1) Tryd.underlying23 (sizeof_5 _) rfl ha87 rfl (by omega) rfl)) ?_
  simp only [pS, pN, pA, pC, pZ]
  refine gw_pure rfl rfl (bv b0) (fun w93 hCw93 => pureAt_of (ex_load rfl (load1 (nagg_5 _) (St.fz (St.tells S40 hCw93) c88)))) ?_
  simp only [pS, pN, pA, pC, pZ]
  refine gw_pure rfl rfl (.int .i64 ((b0.toNat : Nat) : Int)) (fun w93 hCw93 => pureAt_of (ex_convert (v := (bv b0)) rfl (conv_int b0 _))) ?_
  simp only [pS, pN, pA, pC, pZ]
  refine gw_pure rfl rfl (.int .i64 (((b0.toNat * 256) : Nat) : Int)) (fun w93 hCw93 => pureAt_of (ex_shlN (m := b0.toNat) (n := 8) (r := b0.toNat * 256) rfl rfl (by decide) rfl (by omega))) ?_
  simp only [pS, pN, pA, pC, pZ]
  refine gw_pure rfl rfl (.int .i64 (((2 + (b0.toNat * 256)) : Nat) : Int)) (fun w93 hCw93 => pureAt_of (ex_add (m := (2 : Int)) (n := (((b0.toNat * 256) : Nat) : Int)) (r := (((2 + (b0.toNat * 256)) : Nat) : Int)) rfl rfl (by omega) (by omega) (by omega))) ?_
  simp only [pS, pN, pA, pC, pZ]
  refine gw_pure rfl rfl (.slice ra rn rc) (fun w93 hCw93 => pureAt_of (ex_move _)) ?_
  simp only [pS, pN, pA, pC, pZ]
  refine gw_pure rfl rfl (.pointer (some ⟨b85, o86 + 1 * 1, none⟩)) (fun w93 hCw93 => pureAt_of (ex_at (i := 1) (sz := 1) Tryd.underlying23 (sizeof_5 _) rfl ha87 rfl (by omega) rfl)) ?_
  simp only [pS, pN, pA, pC, pZ]
  refine gw_pure rfl rfl (bv b1) (fun w93 hCw93 => pureAt_of (ex_load rfl (load1 (nagg_5 _) (St.fz (St.tells S40 hCw93) c92)))) ?_
  simp only [pS, pN, pA, pC, pZ]
  refine gw_pure rfl rfl (.int .i64 ((b1.toNat : Nat) : Int)) (fun w93 hCw93 => pureAt_of (ex_convert (v := (bv b1)) rfl (conv_int b1 _))) ?_
  simp only [pS, pN, pA, pC, pZ]
  refine gw_nil ?_
  intro w94 hC96 hF97
  clear hF97
  have S95 := St.tells S40 hC96
  simp only [List.drop_succ_cons, List.drop_zero]
  refine do_ rfl (.int .i64 ((((2 + (b0.toNat * 256)) + b1.toNat) : Nat) : Int)) (ex_add (m := (((2 + (b0.toNat * 256)) : Nat) : Int)) (n := ((b1.toNat : Nat) : Int)) (r := ((((2 + (b0.toNat * 256)) + b1.toNat) : Nat) : Int)) rfl rfl (by omega) (by omega) (by omega)) ?_
  simp only [pS, pN, pA, pC, pZ]
  refine do_ rfl (.int .i64 ((((2 + (b0.toNat * 256)) + b1.toNat) : Nat) : Int)) (ex_assign _) ?_
  simp only [pS, pN, pA, pC, pZ]
  refine wl_nil (hK84 _ _ ?_)
  refine wp_seq_k (fun K98 hK98 => ?_)
  refine wp_seq_k (fun K99 hK99 => ?_)
  obtain ⟨n, hN⟩ : ∃ n, ((2 + (b0.toNat * 256)) + b1.toNat) = n := ⟨_, rfl⟩
  rw [hN]
  have hcn := chunk_num (k := out.length) hb0 hb1 (n := n) (by omega)
  refine region_wl ?_
  refine do_ rfl (.int .i64 ((n : Nat) : Int)) (ex_move _) ?_
  simp only [pS, pN, pA, pC, pZ]
  by_cases hc42 : 4000 < n
  ·refine do_ rfl (.bool true) (ex_gtr (m := ((n : Nat) : Int)) (n := (4000 : Int)) (b := true) rfl rfl (decide_eq_true (by omega))) ?_
   simp only [pS, pN, pA, pC, pZ]
   refine do_ rfl (.bool true) (ex_move _) ?_
   simp only [pS, pN, pA, pC, pZ]
   refine doN (wanted_no rfl rfl rfl (c := true) rfl (by decide)) ?_
   simp only [pS, pN, pA, pC, pZ]
   refine doN (wanted_no rfl rfl rfl (c := true) rfl (by decide)) ?_
   simp only [pS, pN, pA, pC, pZ]
   refine doN (wanted_no rfl rfl rfl (c := true) rfl (by decide)) ?_
   simp only [pS, pN, pA, pC, pZ]
   refine doN (wanted_no rfl rfl rfl (c := true) rfl (by decide)) ?_
   simp only [pS, pN, pA, pC, pZ]
   refine doN (wanted_no rfl rfl rfl (c := true) rfl (by decide)) ?_
   simp only [pS, pN, pA, pC, pZ]
   refine do_ rfl (.bool true) (ex_pick (b := true) rfl) ?_
   simp only [pS, pN, pA, pC, pZ]
   refine wl_nil (hK99 _ _ ?_)
   refine wp_cond_true rfl ?_
   refine wp_exit ?_
   refine hK32 _ _ ?_
   refine wp_seq_k (fun K100 hK100 => ?_)
   have hrt := rec_end hinv (by rw [← hre, hcn, if_pos (by omega)])
   have r101 : Bs _ (.slice a14 at_ at_) (t.data.take at_) := Bs.cut (r30.mono le41) hat
   obtain ⟨S102, le103, hc104⟩ := St.freezeBlk S95 (i := 0) rfl
   generalize addF F34 w94 n18 = F105 at *
   have S102 : St w F w94 F105 [⟨n5, [(.slice none 0 0), (.int .i64 0)], 67⟩, ⟨n2, [(.slice x t.data.length y), (.int .i64 ((t.synced : Nat) : Int))], 67⟩] [ownP 2 CmC CmC.mono 72 w.heap.size rv out] := S102
   refine region_hl S102 (by kernel_rfl) (fun w107 S106 => ?_)
   refine hl_take 0 rfl (by kernel_rfl) (v := rv) (fun _ _ _ h => h) S106.sat rfl (fun w108 hs109 => ex_move _) ?_
   simp only [pS, pN, pA, pC, pZ]
   refine hl_take 1 rfl (by kernel_rfl) (v := (.pointer (some ⟨n18, 0, none⟩))) (fun _ _ _ h => h) S106.sat rfl (fun w110 hs111 => ex_field (q := ⟨n18, 0, none⟩) rfl (fa_67_0 _ _)) ?_
   simp only [pS, pN, pA, pC, pZ]
   refine hl_take 2 rfl (by kernel_rfl) (v := (.slice a14 t.data.length cap15)) (fun _ _ _ h => h) S106.sat rfl (fun w112 hs113 => ex_load rfl (load1 (nagg_23 _) (St.fz (St.start hs113) (hc104 0 _ rfl)))) ?_
   simp only [pS, pN, pA, pC, pZ]
   refine hl_take 3 rfl (by kernel_rfl) (v := (.int .i64 ((at_ : Nat) : Int))) (fun _ _ _ h => h) S106.sat rfl (fun w114 hs115 => ex_move _) ?_
   simp only [pS, pN, pA, pC, pZ]
   refine hl_take 4 rfl (by kernel_rfl) (v := (.int .i64 ((at_ : Nat) : Int))) (fun _ _ _ h => h) S106.sat rfl (fun w116 hs117 => ex_move _) ?_
   simp only [pS, pN, pA, pC, pZ]
   refine hl_take 5 rfl (by kernel_rfl) (v := (.slice a14 at_ at_)) (fun _ _ _ h => h) S106.sat rfl (fun w118 hs119 => ex_slice3_0 (h := at_) (m := at_) (sz := 1) Tryd.underlying23 rfl (sizeof_5 _) rfl rfl (by omega) (by omega) rfl) ?_
   simp only [pS, pN, pA, pC, pZ]
   refine hl_take 6 rfl (by kernel_rfl) (v := (.pointer (some ⟨n18, 1, none⟩))) (fun _ _ _ h => h) S106.sat rfl (fun w120 hs121 => ex_field (q := ⟨n18, 1, none⟩) rfl (fa_67_1 _ _)) ?_
   simp only [pS, pN, pA, pC, pZ]
   refine hl_take 7 rfl (by kernel_rfl) (v := (.int .i64 ((t.synced : Nat) : Int))) (fun _ _ _ h => h) S106.sat rfl (fun w122 hs123 => ex_load rfl (load1 (nagg_3 _) (St.fz (St.start hs123) (hc104 1 _ rfl)))) ?_
   simp only [pS, pN, pA, pC, pZ]
   refine hl_take 8 rfl (by kernel_rfl) (v := (.int .i64 ((at_ : Nat) : Int))) (fun _ _ _ h => h) S106.sat rfl (fun w124 hs125 => ex_move _) ?_
   simp only [pS, pN, pA, pC, pZ]
   refine hl_take 11 rfl (by kernel_rfl) (v := rv) (fun _ _ _ h => h) S106.sat rfl (fun w126 hs127 => ex_assign _) ?_
   simp only [pS, pN, pA, pC, pZ]
   refine hl_next 9 (by kernel_rfl) rfl ?_
   refine do_ rfl (.int .i64 (((min t.synced at_) : Nat) : Int)) (ex_min (m := ((t.synced : Nat) : Int)) (n := ((at_ : Nat) : Int)) (r := (((min t.synced at_) : Nat) : Int)) rfl rfl (by omega)) ?_
   simp only [pS, pN, pA, pC, pZ]
   refine wl_nil (hl_back S106.sat ?_)
   refine hl_take 10 rfl (by kernel_rfl) (v := (.agg #[(.slice a14 at_ at_), (.int .i64 (((min t.synced at_) : Nat) : Int))])) (fun _ _ _ h => h) S106.sat rfl (fun w128 hs129 => ex_build (ps := #[(0, (.slice a14 at_ at_)), (1, (.int .i64 (((min t.synced at_) : Nat) : Int)))]) (bmap2 rfl rfl) (by kernel_rfl)) ?_
   simp only [pS, pN, pA, pC, pZ]
   refine hl_next 12 (by kernel_rfl) rfl ?_
   refine stStore (i := 0) (v := (.agg #[(.slice a14 at_ at_), (.int .i64 (((min t.synced at_) : Nat) : Int))])) S106 rfl rfl rfl rfl (size_67) (allc2 rfl rfl) (Nat.le_of_ble_eq_true rfl) (fun w130 S131 => ?_)
   simp only [pS, pN, pA, pC, pZ]
   have S131 : St w F w130 F105 [⟨n5, [(.slice a14 at_ at_), (.int .i64 (((min t.synced at_) : Nat) : Int))], 67⟩, ⟨n2, [(.slice x t.data.length y), (.int .i64 ((t.synced : Nat) : Int))], 67⟩] [ownP 2 CmC CmC.mono 72 w.heap.size rv out] := S131
   refine wl_nil (hl_back S131.sat ?_)
   refine hl_take 13 rfl (by kernel_rfl) (v := (.int .i64 0)) (fun _ _ _ h => h) S131.sat rfl (fun w132 hs133 => ex_assign _) ?_
   simp only [pS, pN, pA, pC, pZ]
   refine hl_done (by kernel_rfl) ?_
   refine hK100 _ _ ?_
   refine wp_ret ?_
   (try simp only [Exit.then, Exit.inBlock, ↓reduceIte, Nat.reduceEqDiff])
   refine bodyPost_ret (v := (.tuple #[rv, (.agg #[(.slice a14 at_ at_), (.int .i64 (((min t.synced at_) : Nat) : Int))]), (.int .i64 0)])) ?_ rfl ?_
   ·exact res_tct rfl rfl ⟨_, rfl, loadN (cs := [(.slice a14 at_ at_), (.int .i64 (((min t.synced at_) : Nat) : Int))]) Tryd.underlying67 rfl (size_67) (St.range S131 (i := 0) rfl 0 [(.slice a14 at_ at_), (.int .i64 (((min t.synced at_) : Nat) : Int))] (sub_range 0 rfl))⟩ rfl
   ·obtain ⟨F134, S135, le136, hv137⟩ := St.freeze S131 (i := 0) rfl (Nat.le_refl _)
    have S135 : St w F w130 F134 [⟨n5, [(.slice a14 at_ at_), (.int .i64 (((min t.synced at_) : Nat) : Int))], 67⟩, ⟨n2, [(.slice x t.data.length y), (.int .i64 ((t.synced : Nat) : Int))], 67⟩] [] := S135
    have hv137 : Cms _ rv out := hv137
    refine ⟨_, _, rfl, S135.gr, _, _, _, by rw [hrt], by rw [hrt]; exact hv137, by rw [hrt]; exact (r101.mono (le103.trans le136))⟩
  ·refine do_ rfl (.bool false) (ex_gtr (m := ((n : Nat) : Int)) (n := (4000 : Int)) (b := false) rfl rfl (decide_eq_false (by omega))) ?_
   simp only [pS, pN, pA, pC, pZ]
   refine do_ rfl (.bool false) (ex_move _) ?_
   simp only [pS, pN, pA, pC, pZ]
   refine do_ rfl (.slice ra rn rc) (ex_move _) ?_
   simp only [pS, pN, pA, pC, pZ]
   refine do_ rfl (.int .i64 ((rn : Nat) : Int)) (ex_len Tryd.underlying23 rfl) ?_
   simp only [pS, pN, pA, pC, pZ]
   refine do_ rfl (.int .i64 ((n : Nat) : Int)) (ex_move _) ?_
   simp only [pS, pN, pA, pC, pZ]
   refine do_ rfl (.int .i64 (((n + 4) : Nat) : Int)) (ex_add (m := ((n : Nat) : Int)) (n := (4 : Int)) (r := (((n + 4) : Nat) : Int)) rfl rfl (by omega) (by omega) (by omega)) ?_
   simp only [pS, pN, pA, pC, pZ]
   by_cases hc48 : rn < (n + 4)
   ·refine do_ rfl (.bool true) (ex_lss (m := ((rn : Nat) : Int)) (n := (((n + 4) : Nat) : Int)) (b := true) rfl rfl (decide_eq_true (by omega))) ?_
    simp only [pS, pN, pA, pC, pZ]
    refine do_ rfl (.bool true) (ex_pick (b := false) rfl) ?_
    simp only [pS, pN, pA, pC, pZ]
    refine wl_nil (hK99 _ _ ?_)
    refine wp_cond_true rfl ?_
    refine wp_exit ?_
    refine hK32 _ _ ?_
    refine wp_seq_k (fun K138 hK138 => ?_)
    have hrt := rec_end hinv (by rw [← hre, hcn, if_pos (by omega)])
    have r139 : Bs _ (.slice a14 at_ at_) (t.data.take at_) := Bs.cut (r30.mono le41) hat
    obtain ⟨S140, le141, hc142⟩ := St.freezeBlk S95 (i := 0) rfl
    generalize addF F34 w94 n18 = F143 at *
    have S140 : St w F w94 F143 [⟨n5, [(.slice none 0 0), (.int .i64 0)], 67⟩, ⟨n2, [(.slice x t.data.length y), (.int .i64 ((t.synced : Nat) : Int))], 67⟩] [ownP 2 CmC CmC.mono 72 w.heap.size rv out] := S140
    refine region_hl S140 (by kernel_rfl) (fun w145 S144 => ?_)
    refine hl_take 0 rfl (by kernel_rfl) (v := rv) (fun _ _ _ h => h) S144.sat rfl (fun w146 hs147 => ex_move _) ?_
    simp only [pS, pN, pA, pC, pZ]
    refine hl_take 1 rfl (by kernel_rfl) (v := (.pointer (some ⟨n18, 0, none⟩))) (fun _ _ _ h => h) S144.sat rfl (fun w148 hs149 => ex_field (q := ⟨n18, 0, none⟩) rfl (fa_67_0 _ _)) ?_
    simp only [pS, pN, pA, pC, pZ]
    refine hl_take 2 rfl (by kernel_rfl) (v := (.slice a14 t.data.length cap15)) (fun _ _ _ h => h) S144.sat rfl (fun w150 hs151 => ex_load rfl (load1 (nagg_23 _) (St.fz (St.start hs151) (hc142 0 _ rfl)))) ?_
    simp only [pS, pN, pA, pC, pZ]
    refine hl_take 3 rfl (by kernel_rfl) (v := (.int .i64 ((at_ : Nat) : Int))) (fun _ _ _ h => h) S144.sat rfl (fun w152 hs153 => ex_move _) ?_
    simp only [pS, pN, pA, pC, pZ]
    refine hl_take 4 rfl (by kernel_rfl) (v := (.int .i64 ((at_ : Nat) : Int))) (fun _ _ _ h => h) S144.sat rfl (fun w154 hs155 => ex_move _) ?_
    simp only [pS, pN, pA, pC, pZ]
    refine hl_take 5 rfl (by kernel_rfl) (v := (.slice a14 at_ at_)) (fun _ _ _ h => h) S144.sat rfl (fun w156 hs157 => ex_slice3_0 (h := at_) (m := at_) (sz := 1) Tryd.underlying23 rfl (sizeof_5 _) rfl rfl (by omega) (by omega) rfl) ?_
    simp only [pS, pN, pA, pC, pZ]
    refine hl_take 6 rfl (by kernel_rfl) (v := (.pointer (some ⟨n18, 1, none⟩))) (fun _ _ _ h => h) S144.sat rfl (fun w158 hs159 => ex_field (q := ⟨n18, 1, none⟩) rfl (fa_67_1 _ _)) ?_
    simp only [pS, pN, pA, pC, pZ]
    refine hl_take 7 rfl (by kernel_rfl) (v := (.int .i64 ((t.synced : Nat) : Int))) (fun _ _ _ h => h) S144.sat rfl (fun w160 hs161 => ex_load rfl (load1 (nagg_3 _) (St.fz (St.start hs161) (hc142 1 _ rfl)))) ?_
    simp only [pS, pN, pA, pC, pZ]
    refine hl_take 8 rfl (by kernel_rfl) (v := (.int .i64 ((at_ : Nat) : Int))) (fun _ _ _ h => h) S144.sat rfl (fun w162 hs163 => ex_move _) ?_
    simp only [pS, pN, pA, pC, pZ]
    refine hl_take 11 rfl (by kernel_rfl) (v := rv) (fun _ _ _ h => h) S144.sat rfl (fun w164 hs165 => ex_assign _) ?_
    simp only [pS, pN, pA, pC, pZ]
    refine hl_next 9 (by kernel_rfl) rfl ?_
    refine do_ rfl (.int .i64 (((min t.synced at_) : Nat) : Int)) (ex_min (m := ((t.synced : Nat) : Int)) (n := ((at_ : Nat) : Int)) (r := (((min t.synced at_) : Nat) : Int)) rfl rfl (by omega)) ?_
    simp only [pS, pN, pA, pC, pZ]
    refine wl_nil (hl_back S144.sat ?_)
    refine hl_take 10 rfl (by kernel_rfl) (v := (.agg #[(.slice a14 at_ at_), (.int .i64 (((min t.synced at_) : Nat) : Int))])) (fun _ _ _ h => h) S144.sat rfl (fun w166 hs167 => ex_build (ps := #[(0, (.slice a14 at_ at_)), (1, (.int .i64 (((min t.synced at_) : Nat) : Int)))]) (bmap2 rfl rfl) (by kernel_rfl)) ?_
    simp only [pS, pN, pA, pC, pZ]
    refine hl_next 12 (by kernel_rfl) rfl ?_
    refine stStore (i := 0) (v := (.agg #[(.slice a14 at_ at_), (.int .i64 (((min t.synced at_) : Nat) : Int))])) S144 rfl rfl rfl rfl (size_67) (allc2 rfl rfl) (Nat.le_of_ble_eq_true rfl) (fun w168 S169 => ?_)
    simp only [pS, pN, pA, pC, pZ]
    have S169 : St w F w168 F143 [⟨n5, [(.slice a14 at_ at_), (.int .i64 (((min t.synced at_) : Nat) : Int))], 67⟩, ⟨n2, [(.slice x t.data.length y), (.int .i64 ((t.synced : Nat) : Int))], 67⟩] [ownP 2 CmC CmC.mono 72 w.heap.size rv out] := S169
    refine wl_nil (hl_back S169.sat ?_)
    refine hl_take 13 rfl (by kernel_rfl) (v := (.int .i64 0)) (fun _ _ _ h => h) S169.sat rfl (fun w170 hs171 => ex_assign _) ?_
    simp only [pS, pN, pA, pC, pZ]
    refine hl_done (by kernel_rfl) ?_
    refine hK138 _ _ ?_
    refine wp_ret ?_
    (try simp only [Exit.then, Exit.inBlock, ↓reduceIte, Nat.reduceEqDiff])
    refine bodyPost_ret (v := (.tuple #[rv, (.agg #[(.slice a14 at_ at_), (.int .i64 (((min t.synced at_) : Nat) : Int))]), (.int .i64 0)])) ?_ rfl ?_
    ·exact res_tct rfl rfl ⟨_, rfl, loadN (cs := [(.slice a14 at_ at_), (.int .i64 (((min t.synced at_) : Nat) : Int))]) Tryd.underlying67 rfl (size_67) (St.range S169 (i := 0) rfl 0 [(.slice a14 at_ at_), (.int .i64 (((min t.synced at_) : Nat) : Int))] (sub_range 0 rfl))⟩ rfl
    ·obtain ⟨F172, S173, le174, hv175⟩ := St.freeze S169 (i := 0) rfl (Nat.le_refl _)
     have S173 : St w F w168 F172 [⟨n5, [(.slice a14 at_ at_), (.int .i64 (((min t.synced at_) : Nat) : Int))], 67⟩, ⟨n2, [(.slice x t.data.length y), (.int .i64 ((t.synced : Nat) : Int))], 67⟩] [] := S173
     have hv175 : Cms _ rv out := hv175
     refine ⟨_, _, rfl, S173.gr, _, _, _, by rw [hrt], by rw [hrt]; exact hv175, by rw [hrt]; exact (r139.mono (le141.trans le174))⟩
   ·refine do_ rfl (.bool false) (ex_lss (m := ((rn : Nat) : Int)) (n := (((n + 4) : Nat) : Int)) (b := false) rfl rfl (decide_eq_false (by omega))) ?_
    simp only [pS, pN, pA, pC, pZ]
    refine do_ rfl (.bool false) (ex_pick (b := false) rfl) ?_
    simp only [pS, pN, pA, pC, pZ]
    refine wl_nil (hK99 _ _ ?_)
    refine wp_cond_false rfl ?_
    refine wp_skip ?_
    refine hK98 _ _ ?_
    refine wp_seq_k (fun K176 hK176 => ?_)
    rw [if_neg (by omega)] at hcn
    refine region_wl ?_
    refine do_ rfl (.slice ra rn rc) (ex_move _) ?_
    simp only [pS, pN, pA, pC, pZ]
    refine do_ rfl (.int .i64 ((n : Nat) : Int)) (ex_move _) ?_
    simp only [pS, pN, pA, pC, pZ]
    have r177 : Bs _ (.slice ra n rc) (rest.take n) := bs_of_sl (Sl.takeN (Bs.sl hrest) (by omega))
    refine do_ rfl (.slice ra n rc) (ex_slice (l := 0) (h := n) (sz := 1) Tryd.underlying23 rfl (sizeof_5 _) (.inl ⟨rfl, rfl⟩) (.inr ⟨_, rfl, rfl⟩) (by omega) (by omega) (slice_zero)) ?_
    simp only [pS, pN, pA, pC, pZ]
    refine stGives S95 rfl (ex_fn (vs := #[(.slice ra n rc)]) (map1 rfl) rfl (ent_59 _ _)) (Sum_spec _ _ _ (rest.take n) (S95).sat (hT.at S95.gr.below) r177 (by rw [List.length_take]; omega)) ?_
    intro v183 w178 F180 S179 le181 R182
    obtain ⟨x184, rfl, r185⟩ := R182
    obtain ⟨xa186, xc187, rfl, _⟩ := r185.shape
    have r185 : Bs _ (.slice xa186 (sumL (rest.take n)).length xc187) (sumL (rest.take n)) := r185
    simp only [pS, pN, pA, pC, pZ]
    refine do_ rfl (.tuple #[(.slice xa186 (sumL (rest.take n)).length xc187), (.int .i64 0)]) (ex_move _) ?_
    simp only [pS, pN, pA, pC, pZ]
    refine do_ rfl (.slice xa186 (sumL (rest.take n)).length xc187) (ex_extract rfl rfl) ?_
    simp only [pS, pN, pA, pC, pZ]
    refine do_ rfl (.int .i64 0) (ex_extract rfl rfl) ?_
    simp only [pS, pN, pA, pC, pZ]
    refine do_ rfl (.slice xa186 (sumL (rest.take n)).length xc187) (ex_assign _) ?_
    simp only [pS, pN, pA, pC, pZ]
    refine do_ rfl (.int .i64 0) (ex_assign _) ?_
    simp only [pS, pN, pA, pC, pZ]
    refine wl_nil (hK176 _ _ ?_)
    refine wp_seq_k (fun K188 hK188 => ?_)
    refine wp_seq_k (fun K189 hK189 => ?_)
    have hsl := sumL_len (rest.take n)
    have hsc : (sumL (rest.take n)).length ≤ xc187 := by obtain ⟨_, _, e, q, _⟩ := r185.shape; injection e with _ _ e; omega
    have r190 : Bs _ (.slice xa186 4 xc187) ((sumL (rest.take n)).take 4) := bs_of_sl (Sl.takeN (Bs.sl r185) (by omega))
    have r191 : Bs _ (.slice (if rc = n then ra else ra.map (·.add (n * 1))) ((n + 4) - n) (rc - n)) ((rest.take (n + 4)).drop n) := Bs.mid (hrest.mono le181) (by omega) (by omega)
    have hdt : (rest.take (n + 4)).drop n = (rest.drop n).take 4 := by rw [List.drop_take, Nat.add_sub_cancel_left]
    rw [hdt] at r191
    by_cases hq : (sumL (rest.take n)).take 4 = (rest.drop n).take 4
    ·rw [if_neg (by simpa using hq)] at hcn
     refine region_gw F180 7 [] (by kernel_rfl) (by kernel_rfl) ?_
     simp only [List.take_succ_cons, List.take_zero]
     refine gw_pure rfl rfl (.slice xa186 (sumL (rest.take n)).length xc187) (fun w192 hCw192 => pureAt_of (ex_move _)) ?_
     simp only [pS, pN, pA, pC, pZ]
     refine gw_pure rfl rfl (.slice xa186 4 xc187) (fun w192 hCw192 => pureAt_of (ex_slice (l := 0) (h := 4) (sz := 1) Tryd.underlying23 rfl (sizeof_5 _) (.inl ⟨rfl, rfl⟩) (.inr ⟨_, rfl, rfl⟩) (by omega) (by omega) (slice_zero))) ?_
     simp only [pS, pN, pA, pC, pZ]
     refine gw_pure rfl rfl (.slice ra rn rc) (fun w192 hCw192 => pureAt_of (ex_move _)) ?_
     simp only [pS, pN, pA, pC, pZ]
     refine gw_pure rfl rfl (.int .i64 ((n : Nat) : Int)) (fun w192 hCw192 => pureAt_of (ex_move _)) ?_
     simp only [pS, pN, pA, pC, pZ]
     refine gw_pure rfl rfl (.int .i64 ((n : Nat) : Int)) (fun w192 hCw192 => pureAt_of (ex_move _)) ?_
     simp only [pS, pN, pA, pC, pZ]
     refine gw_pure rfl rfl (.int .i64 (((n + 4) : Nat) : Int)) (fun w192 hCw192 => pureAt_of (ex_add (m := ((n : Nat) : Int)) (n := (4 : Int)) (r := (((n + 4) : Nat) : Int)) rfl rfl (by omega) (by omega) (by omega))) ?_
     simp only [pS, pN, pA, pC, pZ]
     refine gw_pure rfl rfl (.slice (if rc = n then ra else ra.map (·.add (n * 1))) ((n + 4) - n) (rc - n)) (fun w192 hCw192 => pureAt_of (ex_slice (l := n) (h := (n + 4)) (sz := 1) Tryd.underlying23 rfl (sizeof_5 _) (.inr ⟨_, rfl, rfl⟩) (.inr ⟨_, rfl, rfl⟩) (by omega) (by omega) (rfl))) ?_
     simp only [pS, pN, pA, pC, pZ]
     refine gw_nil ?_
     intro w193 hC195 hF196
     clear hF196
     have S194 := St.tells S179 hC195
     simp only [List.drop_succ_cons, List.drop_zero]
     refine stTells (v := (.bool true)) S194 rfl (ex_fn (vs := #[(.slice xa186 4 xc187), (.slice (if rc = n then ra else ra.map (·.add (n * 1))) ((n + 4) - n) (rc - n))]) (map2 rfl rfl) rfl (ent_60 _ _)) (tells_bool (slicesEqual_spec _ _ _ _ ((sumL (rest.take n)).take 4) ((rest.drop n).take 4) (S194).sat r190 r191) (beq_iff_eq.2 hq)) (fun w197 S198 => ?_)
     simp only [pS, pN, pA, pC, pZ]
     refine do_ rfl (.bool false) (ex_not (b := true) rfl rfl) ?_
     simp only [pS, pN, pA, pC, pZ]
     refine wl_nil (hK189 _ _ ?_)
     refine wp_cond_false rfl ?_
     refine wp_skip ?_
     refine hK188 _ _ ?_
     refine wp_seq_k (fun K199 hK199 => ?_)
     obtain ⟨e, he⟩ : ∃ e, decE ((rest.take n).drop 2) = e := ⟨_, rfl⟩
     obtain ⟨mm, hmm⟩ : ∃ m, decC ((rest.take n).drop 2) = m := ⟨_, rfl⟩
     rw [he, hmm] at hcn
     refine region_wl ?_
     refine do_ rfl (.slice ra rn rc) (ex_move _) ?_
     simp only [pS, pN, pA, pC, pZ]
     refine do_ rfl (.int .i64 ((n : Nat) : Int)) (ex_move _) ?_
     simp only [pS, pN, pA, pC, pZ]
     have r200 : Bs _ (.slice (if rc = 2 then ra else ra.map (·.add (2 * 1))) (n - 2) (rc - 2)) ((rest.take n).drop 2) := Bs.mid (hrest.mono le181) (by omega) (by omega)
     refine do_ rfl (.slice (if rc = 2 then ra else ra.map (·.add (2 * 1))) (n - 2) (rc - 2)) (ex_slice (l := 2) (h := n) (sz := 1) Tryd.underlying23 rfl (sizeof_5 _) (.inr ⟨_, rfl, rfl⟩) (.inr ⟨_, rfl, rfl⟩) (by omega) (by omega) (rfl)) ?_
     simp only [pS, pN, pA, pC, pZ]
     refine stGives S198 rfl (ex_fn (vs := #[(.slice (if rc = 2 then ra else ra.map (·.add (2 * 1))) (n - 2) (rc - 2))]) (map1 rfl) rfl (ent_61 _ _)) (decodeIs_spec _ _ _ ((rest.take n).drop 2) (S198).sat r200 (by rw [List.length_drop, List.length_take]; omega) he hmm) ?_
     intro v206 w201 F203 S202 le204 R205
     obtain ⟨_, rfl, xa207, xc208, rfl, r209⟩ := R205
     simp only [pS, pN, pA, pC, pZ]
     refine do_ rfl (.tuple #[(.agg #[(.int .i64 ((mm.turn : Nat) : Int)), (.slice xa207 mm.writes.length xc208)]), (.int .i64 e)]) (ex_move _) ?_
     simp only [pS, pN, pA, pC, pZ]
     refine do_ rfl (.agg #[(.int .i64 ((mm.turn : Nat) : Int)), (.slice xa207 mm.writes.length xc208)]) (ex_extract rfl rfl) ?_
     simp only [pS, pN, pA, pC, pZ]
     refine do_ rfl (.int .i64 e) (ex_extract rfl rfl) ?_
     simp only [pS, pN, pA, pC, pZ]
     refine stNew S202 (v := fun n => .pointer (some ⟨n, 0, none⟩)) rfl (ex_alloc (zero_72 _)) (fun n210 w211 S212 => ?_)
     simp only [pS, pN, pA, pC, pZ]
     have S212 : St w F w211 F203 [⟨n210, [(.int .i64 0), (.slice none 0 0)], 72⟩, ⟨n18, [(.slice a14 t.data.length cap15), (.int .i64 ((t.synced : Nat) : Int))], 67⟩, ⟨n5, [(.slice none 0 0), (.int .i64 0)], 67⟩, ⟨n2, [(.slice x t.data.length y), (.int .i64 ((t.synced : Nat) : Int))], 67⟩] [ownP 2 CmC CmC.mono 72 w.heap.size rv out] := S212
     refine stStore (i := 0) (v := (.agg #[(.int .i64 ((mm.turn : Nat) : Int)), (.slice xa207 mm.writes.length xc208)])) S212 rfl rfl rfl rfl (size_72) (allc2 rfl rfl) (Nat.le_of_ble_eq_true rfl) (fun w213 S214 => ?_)
     simp only [pS, pN, pA, pC, pZ]
     have S214 : St w F w213 F203 [⟨n210, [(.int .i64 ((mm.turn : Nat) : Int)), (.slice xa207 mm.writes.length xc208)], 72⟩, ⟨n18, [(.slice a14 t.data.length cap15), (.int .i64 ((t.synced : Nat) : Int))], 67⟩, ⟨n5, [(.slice none 0 0), (.int .i64 0)], 67⟩, ⟨n2, [(.slice x t.data.length y), (.int .i64 ((t.synced : Nat) : Int))], 67⟩] [ownP 2 CmC CmC.mono 72 w.heap.size rv out] := S214
     refine do_ rfl (.int .i64 e) (ex_assign _) ?_
     simp only [pS, pN, pA, pC, pZ]
     refine wl_nil (hK199 _ _ ?_)
     refine wp_seq_k (fun K215 hK215 => ?_)
     refine wp_seq_k (fun K216 hK216 => ?_)
     obtain ⟨a217, cap218, rfl, h219, h220⟩ := (S214.own (i := 0) rfl).shape
     unfold maxLen at h220
     refine region_wl ?_
     refine do_ rfl (.int .i64 e) (ex_move _) ?_
     simp only [pS, pN, pA, pC, pZ]
     by_cases hc74 : e = (0 : Int)
     ·refine do_ rfl (.bool false) (ex_neq (m := e) (n := (0 : Int)) (b := false) rfl rfl (bne_eq_false_iff_eq.2 (by omega))) ?_
      simp only [pS, pN, pA, pC, pZ]
      refine do_ rfl (.bool false) (ex_move _) ?_
      simp only [pS, pN, pA, pC, pZ]
      refine do_ rfl (.pointer (some ⟨n210, 0, none⟩)) (ex_field (q := ⟨n210, 0, none⟩) rfl (fa_72_0 _ _)) ?_
      simp only [pS, pN, pA, pC, pZ]
      refine do_ rfl (.int .i64 ((mm.turn : Nat) : Int)) (ex_load rfl (load1 (nagg_3 _) (St.cell S214 (i := 0) rfl rfl))) ?_
      simp only [pS, pN, pA, pC, pZ]
      refine do_ rfl (.slice a217 out.length cap218) (ex_move _) ?_
      simp only [pS, pN, pA, pC, pZ]
      refine do_ rfl (.int .i64 ((out.length : Nat) : Int)) (ex_len Tryd.underlying60 rfl) ?_
      simp only [pS, pN, pA, pC, pZ]
      refine do_ rfl (.int .i64 (((out.length + 1) : Nat) : Int)) (ex_add (m := ((out.length : Nat) : Int)) (n := (1 : Int)) (r := (((out.length + 1) : Nat) : Int)) rfl rfl (by omega) (by omega) (by omega)) ?_
      simp only [pS, pN, pA, pC, pZ]
      by_cases hc81 : mm.turn = (out.length + 1)
      ·refine do_ rfl (.bool false) (ex_neq (m := ((mm.turn : Nat) : Int)) (n := (((out.length + 1) : Nat) : Int)) (b := false) rfl rfl (bne_eq_false_iff_eq.2 (by omega))) ?_
       simp only [pS, pN, pA, pC, pZ]
       refine do_ rfl (.bool false) (ex_pick (b := false) rfl) ?_
       simp only [pS, pN, pA, pC, pZ]
       refine wl_nil (hK216 _ _ ?_)
       refine wp_cond_false rfl ?_
       refine wp_skip ?_
       refine hK215 _ _ ?_
       refine wp_seq_k (fun K221 hK221 => ?_)
       have hch : chunkR (t.data.drop at_) out.length = some (mm, n + 4) := by rw [← hre, hcn, if_neg (by omega)]
       obtain ⟨g, rfl⟩ : ∃ g, f_ = g + 1 := ⟨f_ - 1, by omega⟩
       refine region_wl ?_
       refine do_ rfl (.slice a217 out.length cap218) (ex_move _) ?_
       simp only [pS, pN, pA, pC, pZ]
       refine do_ rfl (.agg #[(.int .i64 ((mm.turn : Nat) : Int)), (.slice xa207 mm.writes.length xc208)]) (ex_load rfl (loadN (cs := [(.int .i64 ((mm.turn : Nat) : Int)), (.slice xa207 mm.writes.length xc208)]) Tryd.underlying72 rfl (size_72) (St.range S214 (i := 0) rfl 0 [(.int .i64 ((mm.turn : Nat) : Int)), (.slice xa207 mm.writes.length xc208)] (sub_range 0 rfl)))) ?_
       simp only [pS, pN, pA, pC, pZ]
       refine stNew S214 (v := fun n => .slice (some ⟨n, 0, none⟩) 1 1) rfl (ex_lit (ps := #[(0, (.agg #[(.int .i64 ((mm.turn : Nat) : Int)), (.slice xa207 mm.writes.length xc208)]))]) (cells := #[(.int .i64 ((mm.turn : Nat) : Int)), (.slice xa207 mm.writes.length xc208)]) (E := 72) (bmap1 rfl) (fun w => by kernel_rfl)) (fun n222 w223 S224 => ?_)
       simp only [pS, pN, pA, pC, pZ]
       have S224 : St w F w223 F203 [⟨n222, [(.int .i64 ((mm.turn : Nat) : Int)), (.slice xa207 mm.writes.length xc208)], 72⟩, ⟨n210, [(.int .i64 ((mm.turn : Nat) : Int)), (.slice xa207 mm.writes.length xc208)], 72⟩, ⟨n18, [(.slice a14 t.data.length cap15), (.int .i64 ((t.synced : Nat) : Int))], 67⟩, ⟨n5, [(.slice none 0 0), (.int .i64 0)], 67⟩, ⟨n2, [(.slice x t.data.length y), (.int .i64 ((t.synced : Nat) : Int))], 67⟩] [ownP 2 CmC CmC.mono 72 w.heap.size (.slice a217 out.length cap218) out] := S224
       refine stPush (i := 0) (r := 0) (p := mm) (cs := [(.int .i64 ((mm.turn : Nat) : Int)), (.slice xa207 mm.writes.length xc208)]) S224 rfl i72 (.agg #[(.int .i64 0), (.slice none 0 0)]) 32 Tryd.underlying60 hi72 hz72 hs72 hb72 rfl (by decide) rfl rfl rfl rfl rfl (CmC.oneCell (p := mm) ⟨_, _, rfl, rfl, r209⟩) (⟨_, _, rfl, rfl, r209⟩) (Nat.le_refl _) S224.gr.below.size (by unfold maxLen; omega) (by omega) ?_
       intro v225 w226 S227 hn228
       simp only [pS, pN, pA, pC, pZ]
       have S227 := St.drop S227 (L' := [⟨n210, [(.int .i64 ((mm.turn : Nat) : Int)), (.slice xa207 mm.writes.length xc208)], 72⟩, ⟨n18, [(.slice a14 t.data.length cap15), (.int .i64 ((t.synced : Nat) : Int))], 67⟩, ⟨n5, [(.slice none 0 0), (.int .i64 0)], 67⟩, ⟨n2, [(.slice x t.data.length y), (.int .i64 ((t.synced : Nat) : Int))], 67⟩]) (.cons _ (List.Sublist.refl _))
       have S227 : St w F w226 F203 [⟨n210, [(.int .i64 ((mm.turn : Nat) : Int)), (.slice xa207 mm.writes.length xc208)], 72⟩, ⟨n18, [(.slice a14 t.data.length cap15), (.int .i64 ((t.synced : Nat) : Int))], 67⟩, ⟨n5, [(.slice none 0 0), (.int .i64 0)], 67⟩, ⟨n2, [(.slice x t.data.length y), (.int .i64 ((t.synced : Nat) : Int))], 67⟩] [ownP 2 CmC CmC.mono 72 w.heap.size v225 (out ++ [mm])] := S227
       refine do_ rfl v225 (ex_assign _) ?_
       simp only [pS, pN, pA, pC, pZ]
       refine wl_nil (hK221 _ _ ?_)
       refine region_wl ?_
       refine do_ rfl (.int .i64 ((at_ : Nat) : Int)) (ex_move _) ?_
       simp only [pS, pN, pA, pC, pZ]
       refine do_ rfl (.int .i64 ((n : Nat) : Int)) (ex_move _) ?_
       simp only [pS, pN, pA, pC, pZ]
       refine do_ rfl (.int .i64 (((n + 4) : Nat) : Int)) (ex_add (m := ((n : Nat) : Int)) (n := (4 : Int)) (r := (((n + 4) : Nat) : Int)) rfl rfl (by omega) (by omega) (by omega)) ?_
       simp only [pS, pN, pA, pC, pZ]
       refine do_ rfl (.int .i64 (((at_ + (n + 4)) : Nat) : Int)) (ex_add (m := ((at_ : Nat) : Int)) (n := (((n + 4) : Nat) : Int)) (r := (((at_ + (n + 4)) : Nat) : Int)) rfl rfl (by omega) (by omega) (by omega)) ?_
       simp only [pS, pN, pA, pC, pZ]
       refine do_ rfl (.int .i64 (((at_ + (n + 4)) : Nat) : Int)) (ex_assign _) ?_
       simp only [pS, pN, pA, pC, pZ]
       refine wl_nil ?_
       have S227 := St.drop S227 (L' := [⟨n18, [(.slice a14 t.data.length cap15), (.int .i64 ((t.synced : Nat) : Int))], 67⟩, ⟨n5, [(.slice none 0 0), (.int .i64 0)], 67⟩, ⟨n2, [(.slice x t.data.length y), (.int .i64 ((t.synced : Nat) : Int))], 67⟩]) (.cons _ (List.Sublist.refl _))
       exact hK42 _ _ _ (by omega) ⟨(at_ + (n + 4)), v225, (out ++ [mm]), g, F203, _, rfl, rfl, rfl, S227, ((le41.trans le181).trans le204), (by omega), (rec_step hinv hch), (by omega), (by rw [List.length_append]; simp only [List.length_cons, List.length_nil]; omega)⟩
      ·refine do_ rfl (.bool true) (ex_neq (m := ((mm.turn : Nat) : Int)) (n := (((out.length + 1) : Nat) : Int)) (b := true) rfl rfl (bne_iff_ne.2 (by omega))) ?_
       simp only [pS, pN, pA, pC, pZ]
       refine do_ rfl (.bool true) (ex_pick (b := false) rfl) ?_
       simp only [pS, pN, pA, pC, pZ]
       refine wl_nil (hK216 _ _ ?_)
       refine wp_cond_true rfl ?_
       refine wp_exit ?_
       refine hK32 _ _ ?_
       refine wp_seq_k (fun K229 hK229 => ?_)
       have hrt := rec_end hinv (by rw [← hre, hcn, if_pos (by omega)])
       have r230 : Bs _ (.slice a14 at_ at_) (t.data.take at_) := Bs.cut (r30.mono ((le41.trans le181).trans le204)) hat
       obtain ⟨S231, le232, hc233⟩ := St.freezeBlk S214 (i := 1) rfl
       generalize addF F203 w213 n18 = F234 at *
       have S231 : St w F w213 F234 [⟨n210, [(.int .i64 ((mm.turn : Nat) : Int)), (.slice xa207 mm.writes.length xc208)], 72⟩, ⟨n5, [(.slice none 0 0), (.int .i64 0)], 67⟩, ⟨n2, [(.slice x t.data.length y), (.int .i64 ((t.synced : Nat) : Int))], 67⟩] [ownP 2 CmC CmC.mono 72 w.heap.size (.slice a217 out.length cap218) out] := S231
       refine region_hl S231 (by kernel_rfl) (fun w236 S235 => ?_)
       refine hl_take 0 rfl (by kernel_rfl) (v := (.slice a217 out.length cap218)) (fun _ _ _ h => h) S235.sat rfl (fun w237 hs238 => ex_move _) ?_
       simp only [pS, pN, pA, pC, pZ]
       refine hl_take 1 rfl (by kernel_rfl) (v := (.pointer (some ⟨n18, 0, none⟩))) (fun _ _ _ h => h) S235.sat rfl (fun w239 hs240 => ex_field (q := ⟨n18, 0, none⟩) rfl (fa_67_0 _ _)) ?_
       simp only [pS, pN, pA, pC, pZ]
       refine hl_take 2 rfl (by kernel_rfl) (v := (.slice a14 t.data.length cap15)) (fun _ _ _ h => h) S235.sat rfl (fun w241 hs242 => ex_load rfl (load1 (nagg_23 _) (St.fz (St.start hs242) (hc233 0 _ rfl)))) ?_
       simp only [pS, pN, pA, pC, pZ]
       refine hl_take 3 rfl (by kernel_rfl) (v := (.int .i64 ((at_ : Nat) : Int))) (fun _ _ _ h => h) S235.sat rfl (fun w243 hs244 => ex_move _) ?_
       simp only [pS, pN, pA, pC, pZ]
       refine hl_take 4 rfl (by kernel_rfl) (v := (.int .i64 ((at_ : Nat) : Int))) (fun _ _ _ h => h) S235.sat rfl (fun w245 hs246 => ex_move _) ?_
       simp only [pS, pN, pA, pC, pZ]
       refine hl_take 5 rfl (by kernel_rfl) (v := (.slice a14 at_ at_)) (fun _ _ _ h => h) S235.sat rfl (fun w247 hs248 => ex_slice3_0 (h := at_) (m := at_) (sz := 1) Tryd.underlying23 rfl (sizeof_5 _) rfl rfl (by omega) (by omega) rfl) ?_
       simp only [pS, pN, pA, pC, pZ]
       refine hl_take 6 rfl (by kernel_rfl) (v := (.pointer (some ⟨n18, 1, none⟩))) (fun _ _ _ h => h) S235.sat rfl (fun w249 hs250 => ex_field (q := ⟨n18, 1, none⟩) rfl (fa_67_1 _ _)) ?_
       simp only [pS, pN, pA, pC, pZ]
       refine hl_take 7 rfl (by kernel_rfl) (v := (.int .i64 ((t.synced : Nat) : Int))) (fun _ _ _ h => h) S235.sat rfl (fun w251 hs252 => ex_load rfl (load1 (nagg_3 _) (St.fz (St.start hs252) (hc233 1 _ rfl)))) ?_
       simp only [pS, pN, pA, pC, pZ]
       refine hl_take 8 rfl (by kernel_rfl) (v := (.int .i64 ((at_ : Nat) : Int))) (fun _ _ _ h => h) S235.sat rfl (fun w253 hs254 => ex_move _) ?_
       simp only [pS, pN, pA, pC, pZ]
       refine hl_take 11 rfl (by kernel_rfl) (v := (.slice a217 out.length cap218)) (fun _ _ _ h => h) S235.sat rfl (fun w255 hs256 => ex_assign _) ?_
       simp only [pS, pN, pA, pC, pZ]
       refine hl_next 9 (by kernel_rfl) rfl ?_
       refine do_ rfl (.int .i64 (((min t.synced at_) : Nat) : Int)) (ex_min (m := ((t.synced : Nat) : Int)) (n := ((at_ : Nat) : Int)) (r := (((min t.synced at_) : Nat) : Int)) rfl rfl (by omega)) ?_
       simp only [pS, pN, pA, pC, pZ]
       refine wl_nil (hl_back S235.sat ?_)
       refine hl_take 10 rfl (by kernel_rfl) (v := (.agg #[(.slice a14 at_ at_), (.int .i64 (((min t.synced at_) : Nat) : Int))])) (fun _ _ _ h => h) S235.sat rfl (fun w257 hs258 => ex_build (ps := #[(0, (.slice a14 at_ at_)), (1, (.int .i64 (((min t.synced at_) : Nat) : Int)))]) (bmap2 rfl rfl) (by kernel_rfl)) ?_
       simp only [pS, pN, pA, pC, pZ]
       refine hl_next 12 (by kernel_rfl) rfl ?_
       refine stStore (i := 1) (v := (.agg #[(.slice a14 at_ at_), (.int .i64 (((min t.synced at_) : Nat) : Int))])) S235 rfl rfl rfl rfl (size_67) (allc2 rfl rfl) (Nat.le_of_ble_eq_true rfl) (fun w259 S260 => ?_)
       simp only [pS, pN, pA, pC, pZ]
       have S260 : St w F w259 F234 [⟨n210, [(.int .i64 ((mm.turn : Nat) : Int)), (.slice xa207 mm.writes.length xc208)], 72⟩, ⟨n5, [(.slice a14 at_ at_), (.int .i64 (((min t.synced at_) : Nat) : Int))], 67⟩, ⟨n2, [(.slice x t.data.length y), (.int .i64 ((t.synced : Nat) : Int))], 67⟩] [ownP 2 CmC CmC.mono 72 w.heap.size (.slice a217 out.length cap218) out] := S260
       refine wl_nil (hl_back S260.sat ?_)
       refine hl_take 13 rfl (by kernel_rfl) (v := (.int .i64 0)) (fun _ _ _ h => h) S260.sat rfl (fun w261 hs262 => ex_assign _) ?_
       simp only [pS, pN, pA, pC, pZ]
       refine hl_done (by kernel_rfl) ?_
       refine hK229 _ _ ?_
       refine wp_ret ?_
       (try simp only [Exit.then, Exit.inBlock, ↓reduceIte, Nat.reduceEqDiff])
       refine bodyPost_ret (v := (.tuple #[(.slice a217 out.length cap218), (.agg #[(.slice a14 at_ at_), (.int .i64 (((min t.synced at_) : Nat) : Int))]), (.int .i64 0)])) ?_ rfl ?_
       ·exact res_tct rfl rfl ⟨_, rfl, loadN (cs := [(.slice a14 at_ at_), (.int .i64 (((min t.synced at_) : Nat) : Int))]) Tryd.underlying67 rfl (size_67) (St.range S260 (i := 1) rfl 0 [(.slice a14 at_ at_), (.int .i64 (((min t.synced at_) : Nat) : Int))] (sub_range 0 rfl))⟩ rfl
       ·obtain ⟨F263, S264, le265, hv266⟩ := St.freeze S260 (i := 0) rfl (Nat.le_refl _)
        have S264 : St w F w259 F263 [⟨n210, [(.int .i64 ((mm.turn : Nat) : Int)), (.slice xa207 mm.writes.length xc208)], 72⟩, ⟨n5, [(.slice a14 at_ at_), (.int .i64 (((min t.synced at_) : Nat) : Int))], 67⟩, ⟨n2, [(.slice x t.data.length y), (.int .i64 ((t.synced : Nat) : Int))], 67⟩] [] := S264
        have hv266 : Cms _ (.slice a217 out.length cap218) out := hv266
        refine ⟨_, _, rfl, S264.gr, _, _, _, by rw [hrt], by rw [hrt]; exact hv266, by rw [hrt]; exact (r230.mono (le232.trans le265))⟩
     ·refine do_ rfl (.bool true) (ex_neq (m := e) (n := (0 : Int)) (b := true) rfl rfl (bne_iff_ne.2 (by omega))) ?_
      simp only [pS, pN, pA, pC, pZ]
      refine do_ rfl (.bool true) (ex_move _) ?_
      simp only [pS, pN, pA, pC, pZ]
      refine doN (wanted_no rfl rfl rfl (c := true) rfl (by decide)) ?_
      simp only [pS, pN, pA, pC, pZ]
      refine doN (wanted_no rfl rfl rfl (c := true) rfl (by decide)) ?_
      simp only [pS, pN, pA, pC, pZ]
      refine doN (wanted_no rfl rfl rfl (c := true) rfl (by decide)) ?_
      simp only [pS, pN, pA, pC, pZ]
      refine doN (wanted_no rfl rfl rfl (c := true) rfl (by decide)) ?_
      simp only [pS, pN, pA, pC, pZ]
      refine doN (wanted_no rfl rfl rfl (c := true) rfl (by decide)) ?_
      simp only [pS, pN, pA, pC, pZ]
      refine doN (wanted_no rfl rfl rfl (c := true) rfl (by decide)) ?_
      simp only [pS, pN, pA, pC, pZ]
      refine do_ rfl (.bool true) (ex_pick (b := true) rfl) ?_
      simp only [pS, pN, pA, pC, pZ]
      refine wl_nil (hK216 _ _ ?_)
      refine wp_cond_true rfl ?_
      refine wp_exit ?_
      refine hK32 _ _ ?_
      refine wp_seq_k (fun K267 hK267 => ?_)
      have hrt := rec_end hinv (by rw [← hre, hcn, if_pos (by omega)])
      have r268 : Bs _ (.slice a14 at_ at_) (t.data.take at_) := Bs.cut (r30.mono ((le41.trans le181).trans le204)) hat
      obtain ⟨S269, le270, hc271⟩ := St.freezeBlk S214 (i := 1) rfl
      generalize addF F203 w213 n18 = F272 at *
      have S269 : St w F w213 F272 [⟨n210, [(.int .i64 ((mm.turn : Nat) : Int)), (.slice xa207 mm.writes.length xc208)], 72⟩, ⟨n5, [(.slice none 0 0), (.int .i64 0)], 67⟩, ⟨n2, [(.slice x t.data.length y), (.int .i64 ((t.synced : Nat) : Int))], 67⟩] [ownP 2 CmC CmC.mono 72 w.heap.size (.slice a217 out.length cap218) out] := S269
      refine region_hl S269 (by kernel_rfl) (fun w274 S273 => ?_)
      refine hl_take 0 rfl (by kernel_rfl) (v := (.slice a217 out.length cap218)) (fun _ _ _ h => h) S273.sat rfl (fun w275 hs276 => ex_move _) ?_
      simp only [pS, pN, pA, pC, pZ]
      refine hl_take 1 rfl (by kernel_rfl) (v := (.pointer (some ⟨n18, 0, none⟩))) (fun _ _ _ h => h) S273.sat rfl (fun w277 hs278 => ex_field (q := ⟨n18, 0, none⟩) rfl (fa_67_0 _ _)) ?_
      simp only [pS, pN, pA, pC, pZ]
      refine hl_take 2 rfl (by kernel_rfl) (v := (.slice a14 t.data.length cap15)) (fun _ _ _ h => h) S273.sat rfl (fun w279 hs280 => ex_load rfl (load1 (nagg_23 _) (St.fz (St.start hs280) (hc271 0 _ rfl)))) ?_
      simp only [pS, pN, pA, pC, pZ]
      refine hl_take 3 rfl (by kernel_rfl) (v := (.int .i64 ((at_ : Nat) : Int))) (fun _ _ _ h => h) S273.sat rfl (fun w281 hs282 => ex_move _) ?_
      simp only [pS, pN, pA, pC, pZ]
      refine hl_take 4 rfl (by kernel_rfl) (v := (.int .i64 ((at_ : Nat) : Int))) (fun _ _ _ h => h) S273.sat rfl (fun w283 hs284 => ex_move _) ?_
      simp only [pS, pN, pA, pC, pZ]
      refine hl_take 5 rfl (by kernel_rfl) (v := (.slice a14 at_ at_)) (fun _ _ _ h => h) S273.sat rfl (fun w285 hs286 => ex_slice3_0 (h := at_) (m := at_) (sz := 1) Tryd.underlying23 rfl (sizeof_5 _) rfl rfl (by omega) (by omega) rfl) ?_
      simp only [pS, pN, pA, pC, pZ]
      refine hl_take 6 rfl (by kernel_rfl) (v := (.pointer (some ⟨n18, 1, none⟩))) (fun _ _ _ h => h) S273.sat rfl (fun w287 hs288 => ex_field (q := ⟨n18, 1, none⟩) rfl (fa_67_1 _ _)) ?_
      simp only [pS, pN, pA, pC, pZ]
      refine hl_take 7 rfl (by kernel_rfl) (v := (.int .i64 ((t.synced : Nat) : Int))) (fun _ _ _ h => h) S273.sat rfl (fun w289 hs290 => ex_load rfl (load1 (nagg_3 _) (St.fz (St.start hs290) (hc271 1 _ rfl)))) ?_
      simp only [pS, pN, pA, pC, pZ]
      refine hl_take 8 rfl (by kernel_rfl) (v := (.int .i64 ((at_ : Nat) : Int))) (fun _ _ _ h => h) S273.sat rfl (fun w291 hs292 => ex_move _) ?_
      simp only [pS, pN, pA, pC, pZ]
      refine hl_take 11 rfl (by kernel_rfl) (v := (.slice a217 out.length cap218)) (fun _ _ _ h => h) S273.sat rfl (fun w293 hs294 => ex_assign _) ?_
      simp only [pS, pN, pA, pC, pZ]
      refine hl_next 9 (by kernel_rfl) rfl ?_
      refine do_ rfl (.int .i64 (((min t.synced at_) : Nat) : Int)) (ex_min (m := ((t.synced : Nat) : Int)) (n := ((at_ : Nat) : Int)) (r := (((min t.synced at_) : Nat) : Int)) rfl rfl (by omega)) ?_
      simp only [pS, pN, pA, pC, pZ]
      refine wl_nil (hl_back S273.sat ?_)
      refine hl_take 10 rfl (by kernel_rfl) (v := (.agg #[(.slice a14 at_ at_), (.int .i64 (((min t.synced at_) : Nat) : Int))])) (fun _ _ _ h => h) S273.sat rfl (fun w295 hs296 => ex_build (ps := #[(0, (.slice a14 at_ at_)), (1, (.int .i64 (((min t.synced at_) : Nat) : Int)))]) (bmap2 rfl rfl) (by kernel_rfl)) ?_
      simp only [pS, pN, pA, pC, pZ]
      refine hl_next 12 (by kernel_rfl) rfl ?_
      refine stStore (i := 1) (v := (.agg #[(.slice a14 at_ at_), (.int .i64 (((min t.synced at_) : Nat) : Int))])) S273 rfl rfl rfl rfl (size_67) (allc2 rfl rfl) (Nat.le_of_ble_eq_true rfl) (fun w297 S298 => ?_)
      simp only [pS, pN, pA, pC, pZ]
      have S298 : St w F w297 F272 [⟨n210, [(.int .i64 ((mm.turn : Nat) : Int)), (.slice xa207 mm.writes.length xc208)], 72⟩, ⟨n5, [(.slice a14 at_ at_), (.int .i64 (((min t.synced at_) : Nat) : Int))], 67⟩, ⟨n2, [(.slice x t.data.length y), (.int .i64 ((t.synced : Nat) : Int))], 67⟩] [ownP 2 CmC CmC.mono 72 w.heap.size (.slice a217 out.length cap218) out] := S298
      refine wl_nil (hl_back S298.sat ?_)
      refine hl_take 13 rfl (by kernel_rfl) (v := (.int .i64 0)) (fun _ _ _ h => h) S298.sat rfl (fun w299 hs300 => ex_assign _) ?_
      simp only [pS, pN, pA, pC, pZ]
      refine hl_done (by kernel_rfl) ?_
      refine hK267 _ _ ?_
      refine wp_ret ?_
      (try simp only [Exit.then, Exit.inBlock, ↓reduceIte, Nat.reduceEqDiff])
      refine bodyPost_ret (v := (.tuple #[(.slice a217 out.length cap218), (.agg #[(.slice a14 at_ at_), (.int .i64 (((min t.synced at_) : Nat) : Int))]), (.int .i64 0)])) ?_ rfl ?_
      ·exact res_tct rfl rfl ⟨_, rfl, loadN (cs := [(.slice a14 at_ at_), (.int .i64 (((min t.synced at_) : Nat) : Int))]) Tryd.underlying67 rfl (size_67) (St.range S298 (i := 1) rfl 0 [(.slice a14 at_ at_), (.int .i64 (((min t.synced at_) : Nat) : Int))] (sub_range 0 rfl))⟩ rfl
      ·obtain ⟨F301, S302, le303, hv304⟩ := St.freeze S298 (i := 0) rfl (Nat.le_refl _)
       have S302 : St w F w297 F301 [⟨n210, [(.int .i64 ((mm.turn : Nat) : Int)), (.slice xa207 mm.writes.length xc208)], 72⟩, ⟨n5, [(.slice a14 at_ at_), (.int .i64 (((min t.synced at_) : Nat) : Int))], 67⟩, ⟨n2, [(.slice x t.data.length y), (.int .i64 ((t.synced : Nat) : Int))], 67⟩] [] := S302
       have hv304 : Cms _ (.slice a217 out.length cap218) out := hv304
       refine ⟨_, _, rfl, S302.gr, _, _, _, by rw [hrt], by rw [hrt]; exact hv304, by rw [hrt]; exact (r268.mono (le270.trans le303))⟩
    ·rw [if_pos hq] at hcn
     refine region_gw F180 7 [] (by kernel_rfl) (by kernel_rfl) ?_
     simp only [List.take_succ_cons, List.take_zero]
     refine gw_pure rfl rfl (.slice xa186 (sumL (rest.take n)).length xc187) (fun w305 hCw305 => pureAt_of (ex_move _)) ?_
     simp only [pS, pN, pA, pC, pZ]
     refine gw_pure rfl rfl (.slice xa186 4 xc187) (fun w305 hCw305 => pureAt_of (ex_slice (l := 0) (h := 4) (sz := 1) Tryd.underlying23 rfl (sizeof_5 _) (.inl ⟨rfl, rfl⟩) (.inr ⟨_, rfl, rfl⟩) (by omega) (by omega) (slice_zero))) ?_
     simp only [pS, pN, pA, pC, pZ]
     refine gw_pure rfl rfl (.slice ra rn rc) (fun w305 hCw305 => pureAt_of (ex_move _)) ?_
     simp only [pS, pN, pA, pC, pZ]
     refine gw_pure rfl rfl (.int .i64 ((n : Nat) : Int)) (fun w305 hCw305 => pureAt_of (ex_move _)) ?_
     simp only [pS, pN, pA, pC, pZ]
     refine gw_pure rfl rfl (.int .i64 ((n : Nat) : Int)) (fun w305 hCw305 => pureAt_of (ex_move _)) ?_
     simp only [pS, pN, pA, pC, pZ]
     refine gw_pure rfl rfl (.int .i64 (((n + 4) : Nat) : Int)) (fun w305 hCw305 => pureAt_of (ex_add (m := ((n : Nat) : Int)) (n := (4 : Int)) (r := (((n + 4) : Nat) : Int)) rfl rfl (by omega) (by omega) (by omega))) ?_
     simp only [pS, pN, pA, pC, pZ]
     refine gw_pure rfl rfl (.slice (if rc = n then ra else ra.map (·.add (n * 1))) ((n + 4) - n) (rc - n)) (fun w305 hCw305 => pureAt_of (ex_slice (l := n) (h := (n + 4)) (sz := 1) Tryd.underlying23 rfl (sizeof_5 _) (.inr ⟨_, rfl, rfl⟩) (.inr ⟨_, rfl, rfl⟩) (by omega) (by omega) (rfl))) ?_
     simp only [pS, pN, pA, pC, pZ]
     refine gw_nil ?_
     intro w306 hC308 hF309
     clear hF309
     have S307 := St.tells S179 hC308
     simp only [List.drop_succ_cons, List.drop_zero]
     refine stTells (v := (.bool false)) S307 rfl (ex_fn (vs := #[(.slice xa186 4 xc187), (.slice (if rc = n then ra else ra.map (·.add (n * 1))) ((n + 4) - n) (rc - n))]) (map2 rfl rfl) rfl (ent_60 _ _)) (tells_bool (slicesEqual_spec _ _ _ _ ((sumL (rest.take n)).take 4) ((rest.drop n).take 4) (S307).sat r190 r191) (beq_eq_false_iff_ne.2 hq)) (fun w310 S311 => ?_)
     simp only [pS, pN, pA, pC, pZ]
     refine do_ rfl (.bool true) (ex_not (b := false) rfl rfl) ?_
     simp only [pS, pN, pA, pC, pZ]
     refine wl_nil (hK189 _ _ ?_)
     refine wp_cond_true rfl ?_
     refine wp_exit ?_
     refine hK32 _ _ ?_
     refine wp_seq_k (fun K312 hK312 => ?_)
     have hrt := rec_end hinv (by rw [← hre]; exact hcn)
     have r313 : Bs _ (.slice a14 at_ at_) (t.data.take at_) := Bs.cut (r30.mono (le41.trans le181)) hat
     obtain ⟨S314, le315, hc316⟩ := St.freezeBlk S311 (i := 0) rfl
     generalize addF F180 w310 n18 = F317 at *
     have S314 : St w F w310 F317 [⟨n5, [(.slice none 0 0), (.int .i64 0)], 67⟩, ⟨n2, [(.slice x t.data.length y), (.int .i64 ((t.synced : Nat) : Int))], 67⟩] [ownP 2 CmC CmC.mono 72 w.heap.size rv out] := S314
     refine region_hl S314 (by kernel_rfl) (fun w319 S318 => ?_)
     refine hl_take 0 rfl (by kernel_rfl) (v := rv) (fun _ _ _ h => h) S318.sat rfl (fun w320 hs321 => ex_move _) ?_
     simp only [pS, pN, pA, pC, pZ]
     refine hl_take 1 rfl (by kernel_rfl) (v := (.pointer (some ⟨n18, 0, none⟩))) (fun _ _ _ h => h) S318.sat rfl (fun w322 hs323 => ex_field (q := ⟨n18, 0, none⟩) rfl (fa_67_0 _ _)) ?_
     simp only [pS, pN, pA, pC, pZ]
     refine hl_take 2 rfl (by kernel_rfl) (v := (.slice a14 t.data.length cap15)) (fun _ _ _ h => h) S318.sat rfl (fun w324 hs325 => ex_load rfl (load1 (nagg_23 _) (St.fz (St.start hs325) (hc316 0 _ rfl)))) ?_
     simp only [pS, pN, pA, pC, pZ]
     refine hl_take 3 rfl (by kernel_rfl) (v := (.int .i64 ((at_ : Nat) : Int))) (fun _ _ _ h => h) S318.sat rfl (fun w326 hs327 => ex_move _) ?_
     simp only [pS, pN, pA, pC, pZ]
     refine hl_take 4 rfl (by kernel_rfl) (v := (.int .i64 ((at_ : Nat) : Int))) (fun _ _ _ h => h) S318.sat rfl (fun w328 hs329 => ex_move _) ?_
     simp only [pS, pN, pA, pC, pZ]
     refine hl_take 5 rfl (by kernel_rfl) (v := (.slice a14 at_ at_)) (fun _ _ _ h => h) S318.sat rfl (fun w330 hs331 => ex_slice3_0 (h := at_) (m := at_) (sz := 1) Tryd.underlying23 rfl (sizeof_5 _) rfl rfl (by omega) (by omega) rfl) ?_
     simp only [pS, pN, pA, pC, pZ]
     refine hl_take 6 rfl (by kernel_rfl) (v := (.pointer (some ⟨n18, 1, none⟩))) (fun _ _ _ h => h) S318.sat rfl (fun w332 hs333 => ex_field (q := ⟨n18, 1, none⟩) rfl (fa_67_1 _ _)) ?_
     simp only [pS, pN, pA, pC, pZ]
     refine hl_take 7 rfl (by kernel_rfl) (v := (.int .i64 ((t.synced : Nat) : Int))) (fun _ _ _ h => h) S318.sat rfl (fun w334 hs335 => ex_load rfl (load1 (nagg_3 _) (St.fz (St.start hs335) (hc316 1 _ rfl)))) ?_
     simp only [pS, pN, pA, pC, pZ]
     refine hl_take 8 rfl (by kernel_rfl) (v := (.int .i64 ((at_ : Nat) : Int))) (fun _ _ _ h => h) S318.sat rfl (fun w336 hs337 => ex_move _) ?_
     simp only [pS, pN, pA, pC, pZ]
     refine hl_take 11 rfl (by kernel_rfl) (v := rv) (fun _ _ _ h => h) S318.sat rfl (fun w338 hs339 => ex_assign _) ?_
     simp only [pS, pN, pA, pC, pZ]
     refine hl_next 9 (by kernel_rfl) rfl ?_
     refine do_ rfl (.int .i64 (((min t.synced at_) : Nat) : Int)) (ex_min (m := ((t.synced : Nat) : Int)) (n := ((at_ : Nat) : Int)) (r := (((min t.synced at_) : Nat) : Int)) rfl rfl (by omega)) ?_
     simp only [pS, pN, pA, pC, pZ]
     refine wl_nil (hl_back S318.sat ?_)
     refine hl_take 10 rfl (by kernel_rfl) (v := (.agg #[(.slice a14 at_ at_), (.int .i64 (((min t.synced at_) : Nat) : Int))])) (fun _ _ _ h => h) S318.sat rfl (fun w340 hs341 => ex_build (ps := #[(0, (.slice a14 at_ at_)), (1, (.int .i64 (((min t.synced at_) : Nat) : Int)))]) (bmap2 rfl rfl) (by kernel_rfl)) ?_
     simp only [pS, pN, pA, pC, pZ]
     refine hl_next 12 (by kernel_rfl) rfl ?_
     refine stStore (i := 0) (v := (.agg #[(.slice a14 at_ at_), (.int .i64 (((min t.synced at_) : Nat) : Int))])) S318 rfl rfl rfl rfl (size_67) (allc2 rfl rfl) (Nat.le_of_ble_eq_true rfl) (fun w342 S343 => ?_)
     simp only [pS, pN, pA, pC, pZ]
     have S343 : St w F w342 F317 [⟨n5, [(.slice a14 at_ at_), (.int .i64 (((min t.synced at_) : Nat) : Int))], 67⟩, ⟨n2, [(.slice x t.data.length y), (.int .i64 ((t.synced : Nat) : Int))], 67⟩] [ownP 2 CmC CmC.mono 72 w.heap.size rv out] := S343
     refine wl_nil (hl_back S343.sat ?_)
     refine hl_take 13 rfl (by kernel_rfl) (v := (.int .i64 0)) (fun _ _ _ h => h) S343.sat rfl (fun w344 hs345 => ex_assign _) ?_
     simp only [pS, pN, pA, pC, pZ]
     refine hl_done (by kernel_rfl) ?_
     refine hK312 _ _ ?_
     refine wp_ret ?_
     (try simp only [Exit.then, Exit.inBlock, ↓reduceIte, Nat.reduceEqDiff])
     refine bodyPost_ret (v := (.tuple #[rv, (.agg #[(.slice a14 at_ at_), (.int .i64 (((min t.synced at_) : Nat) : Int))]), (.int .i64 0)])) ?_ rfl ?_
     ·exact res_tct rfl rfl ⟨_, rfl, loadN (cs := [(.slice a14 at_ at_), (.int .i64 (((min t.synced at_) : Nat) : Int))]) Tryd.underlying67 rfl (size_67) (St.range S343 (i := 0) rfl 0 [(.slice a14 at_ at_), (.int .i64 (((min t.synced at_) : Nat) : Int))] (sub_range 0 rfl))⟩ rfl
     ·obtain ⟨F346, S347, le348, hv349⟩ := St.freeze S343 (i := 0) rfl (Nat.le_refl _)
      have S347 : St w F w342 F346 [⟨n5, [(.slice a14 at_ at_), (.int .i64 (((min t.synced at_) : Nat) : Int))], 67⟩, ⟨n2, [(.slice x t.data.length y), (.int .i64 ((t.synced : Nat) : Int))], 67⟩] [] := S347
      have hv349 : Cms _ rv out := hv349
      refine ⟨_, _, rfl, S347.gr, _, _, _, by rw [hrt], by rw [hrt]; exact hv349, by rw [hrt]; exact (r313.mono (le315.trans le348))⟩
end Go.Proofs.YtikklmjengkliaaDoor
namespace Go.Proofs.YtikklmjengkliaaDoor
open Go.RowKit
set_option maxRecDepth 100000
set_option linter.unusedVariables false
set_option linter.unusedSimpArgs false
theorem TpV.dropT {w : World} {F : Fz} {n : Nat} {T : TypeId} (hs : Sat w F) (hb : w.heap[n]? = some (.cells [Value.slice none 0 0, Value.int .i64 0].toArray T (0, 0))) (hc : ∀ u ∈ [Value.slice none 0 0, Value.int .i64 0], ∀ x, u ≠ bv x) {u : Value} {t : Tp} (h : TpV F u t) : TpV (dropF F n) u t := by
  obtain ⟨x0, y0, rfl, h0⟩ := h
  exact ⟨x0, y0, rfl, h0.dropF hs hb hc⟩
theorem TpV.zero (F : Fz) : TpV F (.agg #[.slice none 0 0, .int .i64 0]) ⟨[], 0⟩ := ⟨none, 0, rfl, Bs.nil F⟩
theorem appendIs_spec (F : Fz) (w : World) (v u : Value) (t : Tp) (m : Cm) (t' : Tp) (hs : Sat w F) (hT : Tabs w) (hv : TpV F v t) (hc : CmV F u m) (ok : TpOk 90000 t) (hm : CmOk m) (e : (⟨t.data ++ frameB m, t.synced⟩ : Tp) = t') :
    Calls Tryd.prog 34 #[v, u] w (Gives w F (TpeV t' 0)) := by
  subst e; exact append_spec F w v u t m hs hT hv hc ok hm
theorem recIs_spec (F : Fz) (w : World) (v : Value) (t : Tp) (hs : Sat w F) (hT : Tabs w) (hv : TpV F v t) (ok : TpOk 100000 t) {cs : List Cm} {n : Nat} (e : recT t.data = (cs, n)) :
    Calls Tryd.prog 32 #[v] w (Gives w F fun F' u => ∃ xa xc a c, u = .tuple #[.slice xa cs.length xc, .agg #[.slice a n c, .int .i64 ((min t.synced n : Nat))], .int .i64 0] ∧ Cms F' (.slice xa cs.length xc) cs ∧ Bs F' (.slice a n c) (t.data.take n) ∧ cs.length ≤ xc) :=
  (recover_spec F w v t hs hT hv ok).mono fun e' w' ⟨u, F', he, g, x, a, c, hu, h1, h2⟩ => by
    rw [e] at hu h1 h2
    obtain ⟨xa, xc, rfl, q1, q2⟩ := Sl.shape h1
    exact ⟨u, F', he, g, xa, xc, a, c, hu, h1, h2, q1⟩
theorem tapeB_snoc {cs : List Cm} {k : Nat} {c : Cm} (h : cs[k]? = some c) : tapeB (cs.take k) ++ frameB c = tapeB (cs.take (k + 1)) := by
  rw [take_snoc h, tapeB_append]; simp [tapeB]
theorem tape_le {cs : List Cm} (hok : ∀ c ∈ cs, CmOk c) (k : Nat) : (tapeB (cs.take k)).length ≤ 600 * cs.length := by
  have := tapeB_len_le (cs := cs.take k) (fun c hc => hok c (List.mem_of_mem_take hc))
  rw [List.length_take] at this
  omega
set_option maxHeartbeats 8000000 in
theorem taped_spec (F : Fz) (w : World) (v : Value) (cs : List Cm) (hs : Sat w F) (hT : Tabs w) (hl : Cms F v cs) (hok : ∀ c ∈ cs, CmOk c) (h64 : cs.length ≤ 64) :
    Calls Tryd.prog 29 #[v] w (Gives w F fun F' u => ∃ x, u = .tuple #[x, .bool true] ∧ TpV F' x ⟨tapeB cs, 0⟩) := by
 obtain ⟨a, c, rfl, hc1, hc2⟩ := Sl.shape hl
 unfold maxLen at hc2
 have S := St.start hs
 go_enter Tryd.func29, Tryd.ntmps29
 refine wp_seq_k (fun K1 hK1 => region_wl ?_)
 refine stNew S (v := fun n => .pointer (some ⟨n, 0, none⟩)) rfl (ex_alloc (zero_67 _)) (fun n2 w3 S4 => ?_)
 simp only [pS, pN, pA, pC, pZ]
 have S4 : St w F w3 F [⟨n2, [(.slice none 0 0), (.int .i64 0)], 67⟩] [] := S4
 refine do_ rfl (.bool false) (ex_assign _) ?_
 simp only [pS, pN, pA, pC, pZ]
 refine wl_nil (hK1 _ _ ?_)
 refine wp_seq_k (fun K5 hK5 => region_wl ?_)
 refine stNew S4 (v := fun n => .pointer (some ⟨n, 0, none⟩)) rfl (ex_alloc (zero_67 _)) (fun n6 w7 S8 => ?_)
 simp only [pS, pN, pA, pC, pZ]
 have S8 : St w F w7 F [⟨n6, [(.slice none 0 0), (.int .i64 0)], 67⟩, ⟨n2, [(.slice none 0 0), (.int .i64 0)], 67⟩] [] := S8
 refine wl_nil (hK5 _ _ ?_)
 refine wp_seq_k (fun K9 hK9 => ?_)
 refine wp_seq_k (fun K10 hK10 => region_wl ?_)
 refine do_ rfl (.int .i64 0) (ex_assign _) ?_
 simp only [pS, pN, pA, pC, pZ]
 refine wl_nil (hK10 _ _ ?_)
 refine wp_block ?_
 refine wp_loop_g (fun mm aa w13 => ∃ (k : Nat) (ta : Option Addr) (tc : Nat) (F11 : Fz) (u12 : Nat → Value), mm = cs.length - k ∧ u12 = slots aa ∧ aa = ⟨#[(.slice a cs.length c), undef, (.pointer (some ⟨n2, 0, none⟩)), (u12 3), (.pointer (some ⟨n6, 0, none⟩)), (.int .i64 ((k : Nat) : Int)), (u12 6), (u12 7), (u12 8), (u12 9), (u12 10), (u12 11), (u12 12), (u12 13), (u12 14), (u12 15), (u12 16), (u12 17), (u12 18), (u12 19), (u12 20), (u12 21), (u12 22), (u12 23), (u12 24), (u12 25), (u12 26), (u12 27), (u12 28), (u12 29), (u12 30), (u12 31), (u12 32), (u12 33), (u12 34), (u12 35), undef], []⟩ ∧ St w F w13 F11 [⟨n6, [(.slice ta (tapeB (cs.take k)).length tc), (.int .i64 0)], 67⟩, ⟨n2, [(.slice none 0 0), (.int .i64 0)], 67⟩] [] ∧ Le F F11 ∧ (k ≤ cs.length) ∧ (Bs F11 (.slice ta (tapeB (cs.take k)).length tc) (tapeB (cs.take k)))) _ ⟨0, none, 0, F, _, rfl, rfl, rfl, S8, Le.refl _, (by omega), (Bs.nil _)⟩ ?_
 rintro m14 a15 w16 ⟨k, ta, tc, F11, u12, rfl, -, rfl, S17, le18, hk, hd⟩ K19 hK19
 refine wp_seq_k (fun K20 hK20 => ?_)
 refine wp_seq_k (fun K21 hK21 => region_wl ?_)
 refine do_ rfl (.int .i64 ((k : Nat) : Int)) (ex_move _) ?_
 simp only [pS, pN, pA, pC, pZ]
 refine do_ rfl (.slice a cs.length c) (ex_move _) ?_
 simp only [pS, pN, pA, pC, pZ]
 refine do_ rfl (.int .i64 ((cs.length : Nat) : Int)) (ex_len Tryd.underlying60 rfl) ?_
 simp only [pS, pN, pA, pC, pZ]
 by_cases hc11 : k < cs.length
 ·refine do_ rfl (.bool true) (ex_lss (m := ((k : Nat) : Int)) (n := ((cs.length : Nat) : Int)) (b := true) rfl rfl (decide_eq_true (by omega))) ?_
  simp only [pS, pN, pA, pC, pZ]
  refine wl_nil (hK21 _ _ ?_)
  refine wp_cond_true rfl ?_
  refine wp_skip ?_
  refine hK20 _ _ ?_
  refine wp_seq_k (fun K22 hK22 => ?_)
  refine wp_block ?_
  refine wp_seq_k (fun K23 hK23 => ?_)
  obtain ⟨m, hp⟩ : ∃ m, cs[k]? = some m := ⟨cs[k], List.getElem?_eq_getElem hc11⟩
  have hfl := frameB_len (hok m (List.mem_of_getElem? hp))
  have hts := congrArg List.length (tapeB_snoc hp)
  rw [List.length_append] at hts
  obtain ⟨b24, o25, ha26, xa29, xc30, c27, c28, r31⟩ := Cms.get (hl.mono le18) hp
  refine region_late F11 [0, 1, 2, 3, 4, 5, 6, 7, 9] 8 10 [11] [(5, .made (fun F' u => TpeV (⟨tapeB (cs.take (k + 1)), 0⟩ : Tp) 0 F' u)), (7, .made (fun F' u => TpV F' u (⟨tapeB (cs.take (k + 1)), 0⟩ : Tp))), (9, .rel (NewAt w16 [(.slice none 0 0), (.int .i64 0)] 67) (NewAt.stable _ _ _)), (8, .is (.int .i64 0))] (by kernel_rfl) (by kernel_rfl) rfl rfl rfl rfl ?_
  simp only [opsAt, List.getElem?_cons_succ, List.getElem?_cons_zero, List.map_cons, List.map_nil]
  refine gp_pure rfl rfl (.agg #[(.slice ta (tapeB (cs.take k)).length tc), (.int .i64 0)]) (fun w32 hCw32 => pureAt_of (ex_load rfl (loadN (cs := [(.slice ta (tapeB (cs.take k)).length tc), (.int .i64 0)]) Tryd.underlying67 rfl (size_67) (St.range (St.tells S17 hCw32) (i := 0) rfl 0 [(.slice ta (tapeB (cs.take k)).length tc), (.int .i64 0)] (sub_range 0 rfl))))) ?_
  simp only [pS, pN, pA, pC, pZ]
  refine gp_pure rfl rfl (.slice a cs.length c) (fun w32 hCw32 => pureAt_of (ex_move _)) ?_
  simp only [pS, pN, pA, pC, pZ]
  refine gp_pure rfl rfl (.int .i64 ((k : Nat) : Int)) (fun w32 hCw32 => pureAt_of (ex_move _)) ?_
  simp only [pS, pN, pA, pC, pZ]
  refine gp_pure rfl rfl (.pointer (some ⟨b24, o25 + k * 2, none⟩)) (fun w32 hCw32 => pureAt_of (ex_at (i := k) (sz := 2) Tryd.underlying60 (sizeof_72 _) rfl ha26 rfl (by omega) rfl)) ?_
  simp only [pS, pN, pA, pC, pZ]
  refine gp_pure rfl rfl (.agg #[(.int .i64 ((m.turn : Nat) : Int)), (.slice xa29 m.writes.length xc30)]) (fun w32 hCw32 => pureAt_of (ex_load rfl (loadN (cs := [(.int .i64 ((m.turn : Nat) : Int)), (.slice xa29 m.writes.length xc30)]) Tryd.underlying72 rfl (size_72) (range2 (St.fz (St.tells S17 hCw32) c27) (St.fz (St.tells S17 hCw32) c28))))) ?_
  simp only [pS, pN, pA, pC, pZ]
  refine gp_rel rfl rfl (fun w32 hCw32 hF => does_call (ex_fn (vs := #[(.agg #[(.slice ta (tapeB (cs.take k)).length tc), (.int .i64 0)]), (.agg #[(.int .i64 ((m.turn : Nat) : Int)), (.slice xa29 m.writes.length xc30)])]) (map2 rfl rfl) rfl (ent_34 _ _)) (call_made S17.sat hCw32 (appendIs_spec _ _ _ _ (⟨(tapeB (cs.take k)), 0⟩ : Tp) m (⟨tapeB (cs.take (k + 1)), 0⟩ : Tp) ((St.tells S17 hCw32)).sat (hT.at (St.tells S17 hCw32).gr.below) ⟨_, _, rfl, hd⟩ ⟨_, _, rfl, r31⟩ (⟨by have := tape_le hok k; simp only; omega, Nat.zero_le _⟩) (hok m (List.mem_of_getElem? hp)) (by simp only [tapeB_snoc hp])))) (fun v33 => ?_)
  simp only [pS, pN, pA, pC, pZ]
  refine gp_pure rfl rfl v33 (fun w32 hCw32 => pureAt_of (ex_move _)) ?_
  simp only [pS, pN, pA, pC, pZ]
  refine gp_rel rfl rfl (fun w32 hCw32 hF_ => ?_) (fun v38 => ?_)
  ·obtain ⟨F34, g35, _, rfl, hx37⟩ := hF_.get 5 (by kernel_rfl) rfl rfl
   exact does_val (ex_extract rfl rfl) ⟨F34, g35, hx37⟩ (Below.refl _ _)
  simp only [pS, pN, pA, pC, pZ]
  refine gp_rel rfl rfl (fun w32 hCw32 _ => does_alloc (cs := [(.slice none 0 0), (.int .i64 0)]) (zero_67 _) rfl hCw32) (fun v39 => ?_)
  simp only [pS, pN, pA, pC, pZ]
  refine gp_nil (late_ rfl rfl (v := (.int .i64 0)) (fun w32 hCw32 hF_ => ?_) ?_)
  ·obtain ⟨F40, g41, _, rfl, hx42⟩ := hF_.get 5 (by kernel_rfl) rfl rfl
   exact fun w1 => pureAt_of (ex_extract rfl rfl)
  intro w43 hC45 hF46
  obtain ⟨n47, rfl, hn48, hb49⟩ := hF46.getR 9 rfl rfl
  have hnbn47 : ∀ u ∈ [(.slice none 0 0), (.int .i64 0)], ∀ x, u ≠ bv x := by intro u hu x; simp only [List.mem_cons, List.not_mem_nil, or_false] at hu; rcases hu with rfl | rfl <;> (unfold bv; simp)
  obtain ⟨F50, g51, R52⟩ := hF46.get 7 rfl rfl
  have g53 := g51.dropF S17.sat hn48
  have R54 := TpV.dropT g51.sat hb49 hnbn47 R52
  have S44 := St.addBlk (cs := [(.slice none 0 0), (.int .i64 0)]) S17 g53 hn48 (dropF_at _ _) hb49
  have le56 : Le _ _ := g53.le S17.sat
  have R57 := R54
  generalize (dropF F50 n47) = F55 at *
  obtain ⟨a58, c59, rfl, r60⟩ := R57
  have r60 : Bs _ (.slice a58 (tapeB (cs.take (k + 1))).length c59) (tapeB (cs.take (k + 1))) := r60
  clear hF46
  have S44 : St w F w43 F55 [⟨n47, [(.slice none 0 0), (.int .i64 0)], 67⟩, ⟨n6, [(.slice ta (tapeB (cs.take k)).length tc), (.int .i64 0)], 67⟩, ⟨n2, [(.slice none 0 0), (.int .i64 0)], 67⟩] [] := S44
  simp only [pS, pN, pA, pC, pZ]
  refine stLate (i := 0) (v := (.agg #[(.slice a58 (tapeB (cs.take (k + 1))).length c59), (.int .i64 0)])) S44 rfl rfl rfl (size_67) (allc2 rfl rfl) (Nat.le_of_ble_eq_true rfl) (fun w61 S62 => ?_)
  have S62 : St w F w61 F55 [⟨n47, [(.slice a58 (tapeB (cs.take (k + 1))).length c59), (.int .i64 0)], 67⟩, ⟨n6, [(.slice ta (tapeB (cs.take k)).length tc), (.int .i64 0)], 67⟩, ⟨n2, [(.slice none 0 0), (.int .i64 0)], 67⟩] [] := S62
  refine do_ rfl (.int .i64 0) (ex_assign _) ?_
  simp only [pS, pN, pA, pC, pZ]
  refine wl_nil (hK23 _ _ ?_)
  refine wp_seq_k (fun K63 hK63 => ?_)
  refine wp_seq_k (fun K64 hK64 => region_wl ?_)
  refine do_ rfl (.int .i64 0) (ex_move _) ?_
  simp only [pS, pN, pA, pC, pZ]
  refine do_ rfl (.bool false) (ex_neq (m := (0 : Int)) (n := (0 : Int)) (b := false) rfl rfl (bne_eq_false_iff_eq.2 (by omega))) ?_
  simp only [pS, pN, pA, pC, pZ]
  refine do_ rfl (.bool false) (ex_move _) ?_
  simp only [pS, pN, pA, pC, pZ]
  refine do_ rfl (.pointer (some ⟨n47, 0, none⟩)) (ex_field (q := ⟨n47, 0, none⟩) rfl (fa_67_0 _ _)) ?_
  simp only [pS, pN, pA, pC, pZ]
  refine do_ rfl (.slice a58 (tapeB (cs.take (k + 1))).length c59) (ex_load rfl (load1 (nagg_23 _) (St.cell S62 (i := 0) rfl rfl))) ?_
  simp only [pS, pN, pA, pC, pZ]
  refine do_ rfl (.int .i64 (((tapeB (cs.take (k + 1))).length : Nat) : Int)) (ex_len Tryd.underlying23 rfl) ?_
  simp only [pS, pN, pA, pC, pZ]
  refine do_ rfl (.pointer (some ⟨n6, 0, none⟩)) (ex_field (q := ⟨n6, 0, none⟩) rfl (fa_67_0 _ _)) ?_
  simp only [pS, pN, pA, pC, pZ]
  refine do_ rfl (.slice ta (tapeB (cs.take k)).length tc) (ex_load rfl (load1 (nagg_23 _) (St.cell S62 (i := 1) rfl rfl))) ?_
  simp only [pS, pN, pA, pC, pZ]
  refine do_ rfl (.int .i64 (((tapeB (cs.take k)).length : Nat) : Int)) (ex_len Tryd.underlying23 rfl) ?_
  simp only [pS, pN, pA, pC, pZ]
  refine do_ rfl (.bool false) (ex_leq (m := (((tapeB (cs.take (k + 1))).length : Nat) : Int)) (n := (((tapeB (cs.take k)).length : Nat) : Int)) (b := false) rfl rfl (decide_eq_false (by omega))) ?_
  simp only [pS, pN, pA, pC, pZ]
  refine do_ rfl (.bool false) (ex_pick (b := false) rfl) ?_
  simp only [pS, pN, pA, pC, pZ]
  refine wl_nil (hK64 _ _ ?_)
  refine wp_cond_false rfl ?_
  refine wp_skip ?_
  refine hK63 _ _ ?_
  refine region_wl ?_
  refine do_ rfl (.agg #[(.slice a58 (tapeB (cs.take (k + 1))).length c59), (.int .i64 0)]) (ex_load rfl (loadN (cs := [(.slice a58 (tapeB (cs.take (k + 1))).length c59), (.int .i64 0)]) Tryd.underlying67 rfl (size_67) (St.range S62 (i := 0) rfl 0 [(.slice a58 (tapeB (cs.take (k + 1))).length c59), (.int .i64 0)] (sub_range 0 rfl)))) ?_
  simp only [pS, pN, pA, pC, pZ]
  refine stStore (i := 1) (v := (.agg #[(.slice a58 (tapeB (cs.take (k + 1))).length c59), (.int .i64 0)])) S62 rfl rfl rfl rfl (size_67) (allc2 rfl rfl) (Nat.le_of_ble_eq_true rfl) (fun w65 S66 => ?_)
  simp only [pS, pN, pA, pC, pZ]
  have S66 : St w F w65 F55 [⟨n47, [(.slice a58 (tapeB (cs.take (k + 1))).length c59), (.int .i64 0)], 67⟩, ⟨n6, [(.slice a58 (tapeB (cs.take (k + 1))).length c59), (.int .i64 0)], 67⟩, ⟨n2, [(.slice none 0 0), (.int .i64 0)], 67⟩] [] := S66
  refine wl_nil (hK22 _ _ ?_)
  refine region_wl ?_
  refine do_ rfl (.int .i64 ((k : Nat) : Int)) (ex_move _) ?_
  simp only [pS, pN, pA, pC, pZ]
  refine do_ rfl (.int .i64 (((k + 1) : Nat) : Int)) (ex_add (m := ((k : Nat) : Int)) (n := (1 : Int)) (r := (((k + 1) : Nat) : Int)) rfl rfl (by omega) (by omega) (by omega)) ?_
  simp only [pS, pN, pA, pC, pZ]
  refine do_ rfl (.int .i64 (((k + 1) : Nat) : Int)) (ex_assign _) ?_
  simp only [pS, pN, pA, pC, pZ]
  refine wl_nil ?_
  have S66 := St.drop S66 (L' := [⟨n6, [(.slice a58 (tapeB (cs.take (k + 1))).length c59), (.int .i64 0)], 67⟩, ⟨n2, [(.slice none 0 0), (.int .i64 0)], 67⟩]) (.cons _ (List.Sublist.refl _))
  exact hK19 _ _ _ (by omega) ⟨(k + 1), a58, c59, F55, _, rfl, rfl, rfl, S66, (le18.trans le56), (by omega), r60⟩
 ·refine do_ rfl (.bool false) (ex_lss (m := ((k : Nat) : Int)) (n := ((cs.length : Nat) : Int)) (b := false) rfl rfl (decide_eq_false (by omega))) ?_
  simp only [pS, pN, pA, pC, pZ]
  refine wl_nil (hK21 _ _ ?_)
  refine wp_cond_false rfl ?_
  refine wp_exit ?_
  refine hK9 _ _ ?_
  refine wp_seq_k (fun K67 hK67 => region_wl ?_)
  refine do_ rfl (.agg #[(.slice ta (tapeB (cs.take k)).length tc), (.int .i64 0)]) (ex_load rfl (loadN (cs := [(.slice ta (tapeB (cs.take k)).length tc), (.int .i64 0)]) Tryd.underlying67 rfl (size_67) (St.range S17 (i := 0) rfl 0 [(.slice ta (tapeB (cs.take k)).length tc), (.int .i64 0)] (sub_range 0 rfl)))) ?_
  simp only [pS, pN, pA, pC, pZ]
  refine stStore (i := 1) (v := (.agg #[(.slice ta (tapeB (cs.take k)).length tc), (.int .i64 0)])) S17 rfl rfl rfl rfl (size_67) (allc2 rfl rfl) (Nat.le_of_ble_eq_true rfl) (fun w68 S69 => ?_)
  simp only [pS, pN, pA, pC, pZ]
  have S69 : St w F w68 F11 [⟨n6, [(.slice ta (tapeB (cs.take k)).length tc), (.int .i64 0)], 67⟩, ⟨n2, [(.slice ta (tapeB (cs.take k)).length tc), (.int .i64 0)], 67⟩] [] := S69
  refine do_ rfl (.bool true) (ex_assign _) ?_
  simp only [pS, pN, pA, pC, pZ]
  refine wl_nil (hK67 _ _ ?_)
  refine wp_ret ?_
  (try simp only [Exit.then, Exit.inBlock, ↓reduceIte, Nat.reduceEqDiff])
  refine bodyPost_ret (v := (.tuple #[(.agg #[(.slice ta (tapeB (cs.take k)).length tc), (.int .i64 0)]), (.bool true)])) ?_ rfl ?_
  ·exact res_ct rfl ⟨_, rfl, loadN (cs := [(.slice ta (tapeB (cs.take k)).length tc), (.int .i64 0)]) Tryd.underlying67 rfl (size_67) (St.range S69 (i := 1) rfl 0 [(.slice ta (tapeB (cs.take k)).length tc), (.int .i64 0)] (sub_range 0 rfl))⟩ rfl
  ·obtain rfl : k = cs.length := by omega
   rw [List.take_length] at *
   exact ⟨_, _, rfl, S69.gr, _, rfl, _, _, rfl, hd⟩
set_option maxHeartbeats 8000000 in
theorem begins_is (F : Fz) (w : World) (v u : Value) (a b : List Cm) (hs : Sat w F) (hv : Cms F v a) (hu : Cms F u b) (hab : ∀ (k : Nat) (m : Cm), a[k]? = some m → b[k]? = some m) :
    Calls Tryd.prog 33 #[v, u] w (Tells w (.bool true)) := by
 obtain ⟨x, y, rfl, q1, q2⟩ := Sl.shape hv
 obtain ⟨z, q, rfl, q3, q4⟩ := Sl.shape hu
 unfold maxLen at q2 q4
 have hle : a.length ≤ b.length := by
  rcases Nat.lt_or_ge b.length a.length with h | h
  ·have := hab b.length a[b.length] (List.getElem?_eq_getElem h)
   rw [List.getElem?_eq_none (Nat.le_refl _)] at this; cases this
  ·exact h
 have S := St.start hs
 go_enter Tryd.func33, Tryd.ntmps33
 refine wp_seq_k (fun K1 hK1 => region_wl ?_)
 refine do_ rfl (.bool false) (ex_assign _) ?_
 simp only [pS, pN, pA, pC, pZ]
 refine wl_nil (hK1 _ _ ?_)
 refine wp_seq_k (fun K2 hK2 => ?_)
 refine wp_seq_k (fun K3 hK3 => region_wl ?_)
 refine do_ rfl (.slice x a.length y) (ex_move _) ?_
 simp only [pS, pN, pA, pC, pZ]
 refine do_ rfl (.int .i64 ((a.length : Nat) : Int)) (ex_len Tryd.underlying60 rfl) ?_
 simp only [pS, pN, pA, pC, pZ]
 refine do_ rfl (.slice z b.length q) (ex_move _) ?_
 simp only [pS, pN, pA, pC, pZ]
 refine do_ rfl (.int .i64 ((b.length : Nat) : Int)) (ex_len Tryd.underlying60 rfl) ?_
 simp only [pS, pN, pA, pC, pZ]
 refine do_ rfl (.bool false) (ex_gtr (m := ((a.length : Nat) : Int)) (n := ((b.length : Nat) : Int)) (b := false) rfl rfl (decide_eq_false (by omega))) ?_
 simp only [pS, pN, pA, pC, pZ]
 refine wl_nil (hK3 _ _ ?_)
 refine wp_cond_false rfl ?_
 refine wp_skip ?_
 refine hK2 _ _ ?_
 refine wp_seq_k (fun K4 hK4 => ?_)
 refine wp_seq_k (fun K5 hK5 => region_wl ?_)
 refine do_ rfl (.int .i64 0) (ex_assign _) ?_
 simp only [pS, pN, pA, pC, pZ]
 refine wl_nil (hK5 _ _ ?_)
 refine wp_block ?_
 refine wp_loop_g (fun mm aa w7 => ∃ (k : Nat) (u6 : Nat → Value), mm = a.length - k ∧ u6 = slots aa ∧ aa = ⟨#[(.slice x a.length y), (.slice z b.length q), undef, undef, (u6 4), (.int .i64 ((k : Nat) : Int)), (.slice x a.length y), (.int .i64 ((a.length : Nat) : Int)), (.slice z b.length q), (.int .i64 ((b.length : Nat) : Int)), (.bool false), (u6 11), (u6 12), (u6 13), (u6 14), (u6 15), (u6 16), (u6 17), (u6 18), (u6 19), (u6 20), (u6 21), (u6 22), (u6 23), (u6 24), (u6 25), (u6 26)], []⟩ ∧ St w F w7 F [] [] ∧ (k ≤ a.length)) _ ⟨0, _, rfl, rfl, rfl, S, (by omega)⟩ ?_
 rintro m8 a9 w10 ⟨k, u6, rfl, -, rfl, S11, hk⟩ K13 hK13
 refine wp_seq_k (fun K14 hK14 => ?_)
 refine wp_seq_k (fun K15 hK15 => region_wl ?_)
 refine do_ rfl (.int .i64 ((k : Nat) : Int)) (ex_move _) ?_
 simp only [pS, pN, pA, pC, pZ]
 refine do_ rfl (.slice x a.length y) (ex_move _) ?_
 simp only [pS, pN, pA, pC, pZ]
 refine do_ rfl (.int .i64 ((a.length : Nat) : Int)) (ex_len Tryd.underlying60 rfl) ?_
 simp only [pS, pN, pA, pC, pZ]
 by_cases hc14 : k < a.length
 ·refine do_ rfl (.bool true) (ex_lss (m := ((k : Nat) : Int)) (n := ((a.length : Nat) : Int)) (b := true) rfl rfl (decide_eq_true (by omega))) ?_
  simp only [pS, pN, pA, pC, pZ]
  refine wl_nil (hK15 _ _ ?_)
  refine wp_cond_true rfl ?_
  refine wp_skip ?_
  refine hK14 _ _ ?_
  refine wp_seq_k (fun K16 hK16 => ?_)
  refine wp_block ?_
  refine wp_seq_k (fun K17 hK17 => ?_)
  obtain ⟨m, hp⟩ : ∃ m, a[k]? = some m := ⟨a[k], List.getElem?_eq_getElem hc14⟩
  have hp2 : b[k]? = some m := hab k m hp
  obtain ⟨b18, o19, ha20, xa23, xc24, c21, c22, r25⟩ := Cms.get hv hp
  obtain ⟨b26, o27, ha28, xa31, xc32, c29, c30, r33⟩ := Cms.get hu hp2
  refine region_gw F 8 [] (by kernel_rfl) (by kernel_rfl) ?_
  simp only [List.take_succ_cons, List.take_zero]
  refine gw_pure rfl rfl (.slice x a.length y) (fun w34 hCw34 => pureAt_of (ex_move _)) ?_
  simp only [pS, pN, pA, pC, pZ]
  refine gw_pure rfl rfl (.int .i64 ((k : Nat) : Int)) (fun w34 hCw34 => pureAt_of (ex_move _)) ?_
  simp only [pS, pN, pA, pC, pZ]
  refine gw_pure rfl rfl (.pointer (some ⟨b18, o19 + k * 2, none⟩)) (fun w34 hCw34 => pureAt_of (ex_at (i := k) (sz := 2) Tryd.underlying60 (sizeof_72 _) rfl ha20 rfl (by omega) rfl)) ?_
  simp only [pS, pN, pA, pC, pZ]
  refine gw_pure rfl rfl (.agg #[(.int .i64 ((m.turn : Nat) : Int)), (.slice xa23 m.writes.length xc24)]) (fun w34 hCw34 => pureAt_of (ex_load rfl (loadN (cs := [(.int .i64 ((m.turn : Nat) : Int)), (.slice xa23 m.writes.length xc24)]) Tryd.underlying72 rfl (size_72) (range2 (St.fz (St.tells S11 hCw34) c21) (St.fz (St.tells S11 hCw34) c22))))) ?_
  simp only [pS, pN, pA, pC, pZ]
  refine gw_pure rfl rfl (.slice z b.length q) (fun w34 hCw34 => pureAt_of (ex_move _)) ?_
  simp only [pS, pN, pA, pC, pZ]
  refine gw_pure rfl rfl (.int .i64 ((k : Nat) : Int)) (fun w34 hCw34 => pureAt_of (ex_move _)) ?_
  simp only [pS, pN, pA, pC, pZ]
  refine gw_pure rfl rfl (.pointer (some ⟨b26, o27 + k * 2, none⟩)) (fun w34 hCw34 => pureAt_of (ex_at (i := k) (sz := 2) Tryd.underlying60 (sizeof_72 _) rfl ha28 rfl (by omega) rfl)) ?_
  simp only [pS, pN, pA, pC, pZ]
  refine gw_pure rfl rfl (.agg #[(.int .i64 ((m.turn : Nat) : Int)), (.slice xa31 m.writes.length xc32)]) (fun w34 hCw34 => pureAt_of (ex_load rfl (loadN (cs := [(.int .i64 ((m.turn : Nat) : Int)), (.slice xa31 m.writes.length xc32)]) Tryd.underlying72 rfl (size_72) (range2 (St.fz (St.tells S11 hCw34) c29) (St.fz (St.tells S11 hCw34) c30))))) ?_
  simp only [pS, pN, pA, pC, pZ]
  refine gw_nil ?_
  intro w35 hC37 hF38
  clear hF38
  have S36 := St.tells S11 hC37
  simp only [List.drop_succ_cons, List.drop_zero]
  refine stTells (v := (.bool true)) S36 rfl (ex_fn (vs := #[(.agg #[(.int .i64 ((m.turn : Nat) : Int)), (.slice xa23 m.writes.length xc24)]), (.agg #[(.int .i64 ((m.turn : Nat) : Int)), (.slice xa31 m.writes.length xc32)])]) (map2 rfl rfl) rfl (ent_36 _ _)) (sameCommit_is _ _ _ _ m (S36).sat ⟨_, _, rfl, r25⟩ ⟨_, _, rfl, r33⟩) (fun w39 S40 => ?_)
  simp only [pS, pN, pA, pC, pZ]
  refine do_ rfl (.bool false) (ex_not (b := true) rfl rfl) ?_
  simp only [pS, pN, pA, pC, pZ]
  refine wl_nil (hK17 _ _ ?_)
  refine wp_cond_false rfl ?_
  refine wp_skip ?_
  refine hK16 _ _ ?_
  refine region_wl ?_
  refine do_ rfl (.int .i64 ((k : Nat) : Int)) (ex_move _) ?_
  simp only [pS, pN, pA, pC, pZ]
  refine do_ rfl (.int .i64 (((k + 1) : Nat) : Int)) (ex_add (m := ((k : Nat) : Int)) (n := (1 : Int)) (r := (((k + 1) : Nat) : Int)) rfl rfl (by omega) (by omega) (by omega)) ?_
  simp only [pS, pN, pA, pC, pZ]
  refine do_ rfl (.int .i64 (((k + 1) : Nat) : Int)) (ex_assign _) ?_
  simp only [pS, pN, pA, pC, pZ]
  refine wl_nil ?_
  exact hK13 _ _ _ (by omega) ⟨(k + 1), _, rfl, rfl, rfl, S40, (by omega)⟩
 ·refine do_ rfl (.bool false) (ex_lss (m := ((k : Nat) : Int)) (n := ((a.length : Nat) : Int)) (b := false) rfl rfl (decide_eq_false (by omega))) ?_
  simp only [pS, pN, pA, pC, pZ]
  refine wl_nil (hK15 _ _ ?_)
  refine wp_cond_false rfl ?_
  refine wp_exit ?_
  refine hK4 _ _ ?_
  refine wp_seq_k (fun K41 hK41 => region_wl ?_)
  refine do_ rfl (.bool true) (ex_assign _) ?_
  simp only [pS, pN, pA, pC, pZ]
  refine wl_nil (hK41 _ _ ?_)
  refine wp_ret ?_
  (try simp only [Exit.then, Exit.inBlock, ↓reduceIte, Nat.reduceEqDiff])
  refine bodyPost_ret (v := (.bool true)) ?_ rfl ?_
  ·exact res_t rfl rfl
  ·exact ⟨rfl, S11.gr.below⟩
theorem pre_refl (a : List Cm) : ∀ (k : Nat) (m : Cm), a[k]? = some m → a[k]? = some m := fun _ _ h => h
theorem pre_take (a : List Cm) (n : Nat) : ∀ (k : Nat) (m : Cm), (a.take n)[k]? = some m → a[k]? = some m := fun k m h => by
  rw [List.getElem?_take] at h
  split at h
  · exact h
  · cases h
theorem pre_app (a b : List Cm) : ∀ (k : Nat) (m : Cm), a[k]? = some m → (a ++ b)[k]? = some m := fun k m h => by
  rw [List.getElem?_append_left (List.getElem?_eq_some_iff.1 h).1]; exact h
end Go.Proofs.YtikklmjengkliaaDoor
namespace Go.Proofs.YtikklmjengkliaaDoor
open Go.RowKit
set_option maxRecDepth 100000
set_option linter.unusedVariables false
set_option linter.unusedSimpArgs false
theorem take_whole {cs : List Cm} (hok : ∀ c ∈ cs, CmOk c) {n : Nat} (hn : n ≤ (tapeB cs).length) : ((tapeB cs).take n).take (tapeB (cs.take (wholeN cs n))).length = tapeB (cs.take (wholeN cs n)) := by
  obtain ⟨t, h1, _⟩ := take_tape cs n 0 hok hn
  rw [h1, List.take_left' rfl]
theorem whole_lt {cs : List Cm} (hok : ∀ c ∈ cs, CmOk c) {n : Nat} (hn : n < (tapeB cs).length) : wholeN cs n < cs.length := by
  obtain ⟨t, h1, _, h3, _⟩ := take_tape cs n 0 hok (by omega)
  rcases h3 with h3 | h3
  · have hle := wholeN_le cs n
    rcases Nat.lt_or_ge (wholeN cs n) cs.length with h | h
    · exact h
    · rw [h3, List.append_nil, List.take_of_length_le (l := cs) (by omega)] at h1
      have := congrArg List.length h1
      rw [List.length_take] at this
      omega
  · exact h3
theorem recIs2_spec (F : Fz) (w : World) (v : Value) (t : Tp) (hs : Sat w F) (hT : Tabs w) (hv : TpV F v t) (ok : TpOk 100000 t) {cs : List Cm} {D : By} (e : recT t.data = (cs, D.length)) (e2 : t.data.take D.length = D) :
    Calls Tryd.prog 32 #[v] w (Gives w F fun F' u => ∃ xa xc a c, u = .tuple #[.slice xa cs.length xc, .agg #[.slice a D.length c, .int .i64 ((min t.synced D.length : Nat))], .int .i64 0] ∧ Cms F' (.slice xa cs.length xc) cs ∧ Bs F' (.slice a D.length c) D ∧ cs.length ≤ xc) := by
  have := recIs_spec F w v t hs hT hv ok e
  rwa [e2] at this
theorem rec_more {m : Nat} {cs : List Cm} (hh : HistOk m cs) {c : Cm} (hc : CmOk c) (ht : c.turn = cs.length + 1) : recT (tapeB cs ++ frameB c) = (cs ++ [c], (tapeB cs ++ frameB c).length) := by
  have e : tapeB (cs ++ [c]) = tapeB cs ++ frameB c := by rw [tapeB_append]; simp [tapeB]
  have := rec_of (cs ++ [c]) _ 0 [] (fun x hx => by
    rcases List.mem_append.1 hx with h | h
    · exact hh.ok x h
    · rw [List.mem_singleton.1 h]; exact hc) (fun i hi => by
    rw [List.getElem_append]
    split
    · rename_i h; have := hh.turn i h; omega
    · have : i = cs.length := by simp at hi; omega
      subst this; simp; omega) (by unfold chunkR; rw [if_pos (by simp)]) (Nat.le_refl _)
  rw [List.append_nil, e] at this
  exact this
theorem rec_less {m : Nat} {cs : List Cm} (hh : HistOk m cs) {c : Cm} (hc : CmOk c) (ht : c.turn ≠ cs.length + 1) : recT (tapeB cs ++ frameB c) = (cs, (tapeB cs).length) := by
  have hch := chunk_frame hc (t := []) (k := 0 + cs.length)
  rw [if_neg (by omega), List.append_nil] at hch
  exact rec_of cs _ 0 (frameB c) hh.ok (fun i hi => by have := hh.turn i hi; omega) hch (Nat.le_refl _)
theorem tape_mono {cs : List Cm} {i k : Nat} (h : i ≤ k) : (tapeB (cs.take i)).length ≤ (tapeB (cs.take k)).length := by
  have e : cs.take k = cs.take i ++ (cs.take k).drop i := by
    conv => lhs; rw [← List.take_append_drop i (cs.take k)]
    rw [List.take_take, Nat.min_eq_left h]
  rw [e, tapeB_append, List.length_append]
  omega
theorem tape_pos {cs : List Cm} (hok : ∀ c ∈ cs, CmOk c) {k : Nat} (hk : 0 < k) (hl : 0 < cs.length) : 0 < (tapeB (cs.take k)).length := by
  match cs, hl, k, hk with
  | c :: cs, _, k + 1, _ =>
    have := frameB_len (hok c (by simp))
    rw [List.take_succ_cons, show tapeB (c :: cs.take k) = frameB c ++ tapeB (cs.take k) from by simp [tapeB], List.length_append]
    omega
theorem wr1_ok {p : Pl} {k : Nat} (h1 : 1 ≤ k) (h2 : k ≤ 1048576) : CmOk (⟨k, [writeP p]⟩ : Cm) := ⟨⟨h1, h2⟩, by simp, by simpa using writeP_ok p⟩
theorem crashIs_spec (F : Fz) (w : World) (v : Value) (t : Tp) (k : Nat) (t' : Tp) (hs : Sat w F) (hv : TpV F v t) (ok : TpOk 100000 t) (hk : k ≤ 100000) (e : t'.synced = crashN t k) (e2 : t'.data = t.data.take (crashN t k)) :
    Calls Tryd.prog 35 #[v, .int .i64 (k : Nat)] w (Gives w F (TpeV t' 0)) := by
  obtain ⟨d, n⟩ := t'
  simp only at e e2
  subst e; subst e2
  exact crash_spec F w v t k hs hv ok hk
set_option maxHeartbeats 8000000 in
theorem checkZero_spec (F : Fz) (w : World) (hs : Sat w F) :
    Calls Tryd.prog 56 #[.agg #[.int .i64 0, .slice none 0 0]] w (Tells w (.int .i64 2)) := by
 have S := St.start hs
 go_enter Tryd.func56, Tryd.ntmps56
 refine wp_seq_k (fun K1 hK1 => region_wl ?_)
 refine stNew S (v := fun n => .pointer (some ⟨n, 0, none⟩)) rfl (ex_box (v := (.agg #[(.int .i64 0), (.slice none 0 0)])) rfl) (fun n2 w3 S4 => ?_)
 simp only [pS, pN, pA, pC, pZ]
 have S4 : St w F w3 F [⟨n2, [(.int .i64 0), (.slice none 0 0)], 72⟩] [] := S4
 refine do_ rfl (.int .i64 0) (ex_assign _) ?_
 simp only [pS, pN, pA, pC, pZ]
 refine wl_nil (hK1 _ _ ?_)
 refine wp_seq_k (fun K5 hK5 => ?_)
 refine wp_seq_k (fun K6 hK6 => region_wl ?_)
 refine do_ rfl (.pointer (some ⟨n2, 0, none⟩)) (ex_field (q := ⟨n2, 0, none⟩) rfl (fa_72_0 _ _)) ?_
 simp only [pS, pN, pA, pC, pZ]
 refine do_ rfl (.int .i64 0) (ex_load rfl (load1 (nagg_3 _) (St.cell S4 (i := 0) rfl rfl))) ?_
 simp only [pS, pN, pA, pC, pZ]
 refine do_ rfl (.bool true) (ex_lss (b := true) rfl rfl (by decide)) ?_
 simp only [pS, pN, pA, pC, pZ]
 refine do_ rfl (.bool true) (ex_move _) ?_
 simp only [pS, pN, pA, pC, pZ]
 refine doN (wanted_no rfl rfl rfl (c := true) rfl (by decide)) ?_
 simp only [pS, pN, pA, pC, pZ]
 refine doN (wanted_no rfl rfl rfl (c := true) rfl (by decide)) ?_
 simp only [pS, pN, pA, pC, pZ]
 refine doN (wanted_no rfl rfl rfl (c := true) rfl (by decide)) ?_
 simp only [pS, pN, pA, pC, pZ]
 refine do_ rfl (.bool true) (ex_pick (b := true) rfl) ?_
 simp only [pS, pN, pA, pC, pZ]
 refine wl_nil (hK6 _ _ ?_)
 refine wp_cond_true rfl ?_
 refine wp_seq_k (fun K7 hK7 => region_wl ?_)
 refine do_ rfl (.int .i64 2) (ex_assign _) ?_
 simp only [pS, pN, pA, pC, pZ]
 refine wl_nil (hK7 _ _ ?_)
 refine wp_ret ?_
 (try simp only [Exit.then, Exit.inBlock, ↓reduceIte, Nat.reduceEqDiff])
 refine bodyPost_ret (v := (.int .i64 2)) ?_ rfl ?_
 ·exact res_t rfl rfl
 ·exact ⟨rfl, S4.gr.below⟩
set_option maxHeartbeats 8000000 in
theorem encZero_spec (F : Fz) (w : World) (hs : Sat w F) :
    Calls Tryd.prog 30 #[.agg #[.int .i64 0, .slice none 0 0]] w (Tells w (.tuple #[.slice none 0 0, .int .i64 2])) := by
 have S := St.start hs
 go_enter Tryd.func30, Tryd.ntmps30
 refine wp_seq_k (fun K1 hK1 => region_wl ?_)
 refine stNew S (v := fun n => .pointer (some ⟨n, 0, none⟩)) rfl (ex_box (v := (.agg #[(.int .i64 0), (.slice none 0 0)])) rfl) (fun n2 w3 S4 => ?_)
 simp only [pS, pN, pA, pC, pZ]
 have S4 : St w F w3 F [⟨n2, [(.int .i64 0), (.slice none 0 0)], 72⟩] [] := S4
 refine do_ rfl (.slice none 0 0) (ex_assign _) ?_
 simp only [pS, pN, pA, pC, pZ]
 refine do_ rfl (.int .i64 0) (ex_assign _) ?_
 simp only [pS, pN, pA, pC, pZ]
 refine wl_nil (hK1 _ _ ?_)
 refine wp_seq_k (fun K5 hK5 => ?_)
 refine wp_seq_k (fun K6 hK6 => region_wl ?_)
 refine do_ rfl (.agg #[(.int .i64 0), (.slice none 0 0)]) (ex_load rfl (loadN (cs := [(.int .i64 0), (.slice none 0 0)]) Tryd.underlying72 rfl (size_72) (St.range S4 (i := 0) rfl 0 [(.int .i64 0), (.slice none 0 0)] (sub_range 0 rfl)))) ?_
 simp only [pS, pN, pA, pC, pZ]
 refine stTells (v := (.int .i64 2)) S4 rfl (ex_fn (vs := #[(.agg #[(.int .i64 0), (.slice none 0 0)])]) (map1 rfl) rfl (ent_56 _ _)) (checkZero_spec _ _ (S4).sat) (fun w7 S8 => ?_)
 simp only [pS, pN, pA, pC, pZ]
 refine do_ rfl (.int .i64 2) (ex_assign _) ?_
 simp only [pS, pN, pA, pC, pZ]
 refine wl_nil (hK6 _ _ ?_)
 refine wp_seq_k (fun K9 hK9 => region_wl ?_)
 refine do_ rfl (.int .i64 2) (ex_move _) ?_
 simp only [pS, pN, pA, pC, pZ]
 refine do_ rfl (.bool true) (ex_neq (b := true) rfl rfl (by decide)) ?_
 simp only [pS, pN, pA, pC, pZ]
 refine wl_nil (hK9 _ _ ?_)
 refine wp_cond_true rfl ?_
 refine wp_seq_k (fun K10 hK10 => region_wl ?_)
 refine do_ rfl (.int .i64 2) (ex_move _) ?_
 simp only [pS, pN, pA, pC, pZ]
 refine do_ rfl (.slice none 0 0) (ex_assign _) ?_
 simp only [pS, pN, pA, pC, pZ]
 refine do_ rfl (.int .i64 2) (ex_assign _) ?_
 simp only [pS, pN, pA, pC, pZ]
 refine wl_nil (hK10 _ _ ?_)
 refine wp_ret ?_
 (try simp only [Exit.then, Exit.inBlock, ↓reduceIte, Nat.reduceEqDiff])
 refine bodyPost_ret (v := (.tuple #[(.slice none 0 0), (.int .i64 2)])) ?_ rfl ?_
 ·exact res_tt rfl rfl rfl
 ·exact ⟨rfl, S8.gr.below⟩
set_option maxHeartbeats 8000000 in
theorem appendZero_spec (F : Fz) (w : World) (v : Value) (t : Tp) (hs : Sat w F) (hv : TpV F v t) (ok : TpOk 100000 t) :
    Calls Tryd.prog 34 #[v, .agg #[.int .i64 0, .slice none 0 0]] w (Gives w F (TpeV ⟨[], 0⟩ 2)) := by
 obtain ⟨x, y, rfl, hv⟩ := hv
 have S := St.start hs
 go_enter Tryd.func34, Tryd.ntmps34
 refine wp_seq_k (fun K1 hK1 => region_wl ?_)
 refine stNew S (v := fun n => .pointer (some ⟨n, 0, none⟩)) rfl (ex_box (v := (.agg #[(.slice x t.data.length y), (.int .i64 ((t.synced : Nat) : Int))])) rfl) (fun n2 w3 S4 => ?_)
 simp only [pS, pN, pA, pC, pZ]
 have S4 : St w F w3 F [⟨n2, [(.slice x t.data.length y), (.int .i64 ((t.synced : Nat) : Int))], 67⟩] [] := S4
 refine stNew S4 (v := fun n => .pointer (some ⟨n, 0, none⟩)) rfl (ex_box (v := (.agg #[(.int .i64 0), (.slice none 0 0)])) rfl) (fun n5 w6 S7 => ?_)
 simp only [pS, pN, pA, pC, pZ]
 have S7 : St w F w6 F [⟨n5, [(.int .i64 0), (.slice none 0 0)], 72⟩, ⟨n2, [(.slice x t.data.length y), (.int .i64 ((t.synced : Nat) : Int))], 67⟩] [] := S7
 refine stNew S7 (v := fun n => .pointer (some ⟨n, 0, none⟩)) rfl (ex_alloc (zero_67 _)) (fun n8 w9 S10 => ?_)
 simp only [pS, pN, pA, pC, pZ]
 have S10 : St w F w9 F [⟨n8, [(.slice none 0 0), (.int .i64 0)], 67⟩, ⟨n5, [(.int .i64 0), (.slice none 0 0)], 72⟩, ⟨n2, [(.slice x t.data.length y), (.int .i64 ((t.synced : Nat) : Int))], 67⟩] [] := S10
 refine do_ rfl (.int .i64 0) (ex_assign _) ?_
 simp only [pS, pN, pA, pC, pZ]
 refine wl_nil (hK1 _ _ ?_)
 refine wp_seq_k (fun K11 hK11 => region_wl ?_)
 refine do_ rfl (.agg #[(.slice x t.data.length y), (.int .i64 ((t.synced : Nat) : Int))]) (ex_load rfl (loadN (cs := [(.slice x t.data.length y), (.int .i64 ((t.synced : Nat) : Int))]) Tryd.underlying67 rfl (size_67) (St.range S10 (i := 2) rfl 0 [(.slice x t.data.length y), (.int .i64 ((t.synced : Nat) : Int))] (sub_range 0 rfl)))) ?_
 simp only [pS, pN, pA, pC, pZ]
 refine stGivesTp S10 rfl (ex_fn (vs := #[(.agg #[(.slice x t.data.length y), (.int .i64 ((t.synced : Nat) : Int))])]) (map1 rfl) rfl (ent_58 _ _)) (open_spec _ _ _ t (S10).sat ⟨_, _, rfl, hv⟩ ok) ?_
 intro v12 w13 F14 S15 le16
 simp only [pS, pN, pA, pC, pZ]
 have S15 : St w F w13 F14 [⟨n8, [(.slice none 0 0), (.int .i64 0)], 67⟩, ⟨n5, [(.int .i64 0), (.slice none 0 0)], 72⟩, ⟨n2, [(.slice x t.data.length y), (.int .i64 ((t.synced : Nat) : Int))], 67⟩] [ownP 1 ByC ByC.mono 5 w.heap.size v12 t.data] := S15
 obtain ⟨a17, cap18, rfl, h19, h20⟩ := (S15.own (i := 0) rfl).shape
 unfold maxLen at h20
 refine do_ rfl (.tuple #[(.agg #[(.slice a17 t.data.length cap18), (.int .i64 ((t.synced : Nat) : Int))]), (.bool true)]) (ex_move _) ?_
 simp only [pS, pN, pA, pC, pZ]
 refine do_ rfl (.agg #[(.slice a17 t.data.length cap18), (.int .i64 ((t.synced : Nat) : Int))]) (ex_extract rfl rfl) ?_
 simp only [pS, pN, pA, pC, pZ]
 refine do_ rfl (.bool true) (ex_extract rfl rfl) ?_
 simp only [pS, pN, pA, pC, pZ]
 refine stNew S15 (v := fun n => .pointer (some ⟨n, 0, none⟩)) rfl (ex_alloc (zero_67 _)) (fun n21 w22 S23 => ?_)
 simp only [pS, pN, pA, pC, pZ]
 have S23 : St w F w22 F14 [⟨n21, [(.slice none 0 0), (.int .i64 0)], 67⟩, ⟨n8, [(.slice none 0 0), (.int .i64 0)], 67⟩, ⟨n5, [(.int .i64 0), (.slice none 0 0)], 72⟩, ⟨n2, [(.slice x t.data.length y), (.int .i64 ((t.synced : Nat) : Int))], 67⟩] [ownP 1 ByC ByC.mono 5 w.heap.size (.slice a17 t.data.length cap18) t.data] := S23
 refine stStore (i := 0) (v := (.agg #[(.slice a17 t.data.length cap18), (.int .i64 ((t.synced : Nat) : Int))])) S23 rfl rfl rfl rfl (size_67) (allc2 rfl rfl) (Nat.le_of_ble_eq_true rfl) (fun w24 S25 => ?_)
 simp only [pS, pN, pA, pC, pZ]
 have S25 : St w F w24 F14 [⟨n21, [(.slice a17 t.data.length cap18), (.int .i64 ((t.synced : Nat) : Int))], 67⟩, ⟨n8, [(.slice none 0 0), (.int .i64 0)], 67⟩, ⟨n5, [(.int .i64 0), (.slice none 0 0)], 72⟩, ⟨n2, [(.slice x t.data.length y), (.int .i64 ((t.synced : Nat) : Int))], 67⟩] [ownP 1 ByC ByC.mono 5 w.heap.size (.slice a17 t.data.length cap18) t.data] := S25
 refine do_ rfl (.bool true) (ex_assign _) ?_
 simp only [pS, pN, pA, pC, pZ]
 refine wl_nil (hK11 _ _ ?_)
 refine wp_seq_k (fun K26 hK26 => ?_)
 refine wp_seq_k (fun K27 hK27 => region_wl ?_)
 refine do_ rfl (.bool true) (ex_move _) ?_
 simp only [pS, pN, pA, pC, pZ]
 refine do_ rfl (.bool false) (ex_not (b := true) rfl rfl) ?_
 simp only [pS, pN, pA, pC, pZ]
 refine wl_nil (hK27 _ _ ?_)
 refine wp_cond_false rfl ?_
 refine wp_skip ?_
 refine hK26 _ _ ?_
 refine wp_seq_k (fun K28 hK28 => region_wl ?_)
 refine do_ rfl (.agg #[(.int .i64 0), (.slice none 0 0)]) (ex_load rfl (loadN (cs := [(.int .i64 0), (.slice none 0 0)]) Tryd.underlying72 rfl (size_72) (St.range S25 (i := 2) rfl 0 [(.int .i64 0), (.slice none 0 0)] (sub_range 0 rfl)))) ?_
 simp only [pS, pN, pA, pC, pZ]
 refine stTells (v := (.tuple #[(.slice none 0 0), (.int .i64 2)])) S25 rfl (ex_fn (vs := #[(.agg #[(.int .i64 0), (.slice none 0 0)])]) (map1 rfl) rfl (ent_30 _ _)) (encZero_spec _ _ (S25).sat) (fun w29 S30 => ?_)
 simp only [pS, pN, pA, pC, pZ]
 refine do_ rfl (.tuple #[(.slice none 0 0), (.int .i64 2)]) (ex_move _) ?_
 simp only [pS, pN, pA, pC, pZ]
 refine do_ rfl (.slice none 0 0) (ex_extract rfl rfl) ?_
 simp only [pS, pN, pA, pC, pZ]
 refine do_ rfl (.int .i64 2) (ex_extract rfl rfl) ?_
 simp only [pS, pN, pA, pC, pZ]
 refine do_ rfl (.slice none 0 0) (ex_assign _) ?_
 simp only [pS, pN, pA, pC, pZ]
 refine do_ rfl (.int .i64 2) (ex_assign _) ?_
 simp only [pS, pN, pA, pC, pZ]
 refine wl_nil (hK28 _ _ ?_)
 refine wp_seq_k (fun K31 hK31 => ?_)
 refine wp_seq_k (fun K32 hK32 => region_wl ?_)
 refine do_ rfl (.int .i64 2) (ex_move _) ?_
 simp only [pS, pN, pA, pC, pZ]
 refine do_ rfl (.bool true) (ex_neq (b := true) rfl rfl (by decide)) ?_
 simp only [pS, pN, pA, pC, pZ]
 refine wl_nil (hK32 _ _ ?_)
 refine wp_cond_true rfl ?_
 refine wp_seq_k (fun K33 hK33 => region_wl ?_)
 refine do_ rfl (.agg #[(.slice none 0 0), (.int .i64 0)]) (ex_build (ps := #[]) (bmap0) (by kernel_rfl)) ?_
 simp only [pS, pN, pA, pC, pZ]
 refine do_ rfl (.int .i64 2) (ex_move _) ?_
 simp only [pS, pN, pA, pC, pZ]
 refine stStore (i := 1) (v := (.agg #[(.slice none 0 0), (.int .i64 0)])) S30 rfl rfl rfl rfl (size_67) (allc2 rfl rfl) (Nat.le_of_ble_eq_true rfl) (fun w34 S35 => ?_)
 simp only [pS, pN, pA, pC, pZ]
 have S35 : St w F w34 F14 [⟨n21, [(.slice a17 t.data.length cap18), (.int .i64 ((t.synced : Nat) : Int))], 67⟩, ⟨n8, [(.slice none 0 0), (.int .i64 0)], 67⟩, ⟨n5, [(.int .i64 0), (.slice none 0 0)], 72⟩, ⟨n2, [(.slice x t.data.length y), (.int .i64 ((t.synced : Nat) : Int))], 67⟩] [ownP 1 ByC ByC.mono 5 w.heap.size (.slice a17 t.data.length cap18) t.data] := S35
 refine do_ rfl (.int .i64 2) (ex_assign _) ?_
 simp only [pS, pN, pA, pC, pZ]
 refine wl_nil (hK33 _ _ ?_)
 refine wp_ret ?_
 (try simp only [Exit.then, Exit.inBlock, ↓reduceIte, Nat.reduceEqDiff])
 refine bodyPost_ret (v := (.tuple #[(.agg #[(.slice none 0 0), (.int .i64 0)]), (.int .i64 2)])) ?_ rfl ?_
 ·exact res_ct rfl ⟨_, rfl, loadN (cs := [(.slice none 0 0), (.int .i64 0)]) Tryd.underlying67 rfl (size_67) (St.range S35 (i := 1) rfl 0 [(.slice none 0 0), (.int .i64 0)] (sub_range 0 rfl))⟩ rfl
 ·exact ⟨_, _, rfl, S35.gr, _, rfl, TpV.zero _⟩
end Go.Proofs.YtikklmjengkliaaDoor
