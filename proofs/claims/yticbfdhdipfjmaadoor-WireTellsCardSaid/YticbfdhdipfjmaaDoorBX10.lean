/- Rules, plain laws and walks: X4 K7 S10 T0 W1 -/
import Derived.Test.YticbfdhdipfjmaaDoorBX9
import Derived.Test.YticbfdhdipfjmaaDoorBX8
import Derived.OrdersHeld
import Derived.Test.YticbfdhdipfjmaaDoorCards
import Derived.Test.YticbfdhdipfjmaaDoorTie
import Derived.WalkKit
import Derived.ProofKit
import Derived.OpenShut
import Derived.Deep.DeepHandedRow
import Derived.Lib.LaidTab
import Derived.Lib.SmallJoins
import Derived.Test.YticbfdhdipfjmaaDoorBX1
import Derived.Test.YticbfdhdipfjmaaDoorBX4
namespace Go.Proofs.YticbfdhdipfjmaaDoor
open Go.RowKit
set_option maxRecDepth 100000
set_option linter.unusedVariables false
set_option linter.unusedSimpArgs false
/-- A transaction and what was wrong. -/
def TxE (F : Fz) (u : Value) (t : Tx) (e : Int) : Prop := ∃ v, u = .tuple #[v, .int .i64 e] ∧ TxV F v t
theorem TxV.nil (F : Fz) : TxV F (.agg #[.int .i64 0, .slice none 0 0, .slice none 0 0]) nilX := ⟨none, 0, none, 0, rfl, Sl.nil _ _ _, Sl.nil _ _ _⟩
theorem idxE_some {α : Type} {l : List α} {g : α → Bool} (h : 0 ≤ idxE l g) : ∃ i : Nat, idxE l g = (i : Int) ∧ i < l.length ∧ l.findIdx? g = some i := by
  unfold idxE at *
  cases hf : l.findIdx? g with
  | none => rw [hf] at h; simp only at h; omega
  | some i =>
    refine ⟨i, rfl, ?_, rfl⟩
    exact (List.findIdx?_eq_some_iff_getElem.1 hf).1
theorem idxE_neg {α : Type} {l : List α} {g : α → Bool} (h : ¬ 0 ≤ idxE l g) : l.findIdx? g = none := by
  unfold idxE at h
  cases hf : l.findIdx? g with
  | none => rfl
  | some i => rw [hf] at h; simp only at h; omega
set_option maxHeartbeats 8000000 in
theorem txnOwn_spec (F : Fz) (w : World) (v : Value) (t : Tx) (hs : Sat w F) (hv : TxV F v t) (ht : TxOk t) :
    Calls Tryd.prog 32 #[v] w (GivesTx w F 38 42 t) := by
 obtain ⟨x0, y0, x1, y1, rfl, h0, h1⟩ := hv
 obtain ⟨_, _, e0, q0, q1⟩ := Sl.shape h0
 obtain ⟨_, _, e1, q2, q3⟩ := Sl.shape h1
 injection e0 with _ _ e0
 injection e1 with _ _ e1
 subst e0 e1
 unfold maxLen at q1 q3
 obtain ⟨i38, hi38, hz38, hs38, hb38⟩ := info_parts info_38
 have hnr := ht.nr
 have hwl : t.writes.length ≤ 100000 := Nat.le_trans ht.nw (by decide)
 have hws := fun r hr => (ht.writes r hr).small
 have S := St.start hs
 go_enter Tryd.func32, Tryd.ntmps32
 refine wp_seq_k (fun K1 hK1 => region_wl ?_)
 refine stNew S (v := fun n => .pointer (some ⟨n, 0, none⟩)) rfl (ex_box (v := (.agg #[(.int .i64 t.start), (.slice x0 t.reads.length y0), (.slice x1 t.writes.length y1)])) rfl) (fun n2 w3 S4 => ?_)
 simp only [pS, pN, pA, pC, pZ]
 have S4 : St w F w3 F [⟨n2, [(.int .i64 t.start), (.slice x0 t.reads.length y0), (.slice x1 t.writes.length y1)], 63⟩] [] := S4
 refine stNew S4 (v := fun n => .pointer (some ⟨n, 0, none⟩)) rfl (ex_alloc (zero_63 _)) (fun n5 w6 S7 => ?_)
 simp only [pS, pN, pA, pC, pZ]
 have S7 : St w F w6 F [⟨n5, [(.int .i64 0), (.slice none 0 0), (.slice none 0 0)], 63⟩, ⟨n2, [(.int .i64 t.start), (.slice x0 t.reads.length y0), (.slice x1 t.writes.length y1)], 63⟩] [] := S7
 refine wl_nil (hK1 _ _ ?_)
 refine wp_seq_k (fun K8 hK8 => ?_)
 refine region_gw F 7 [(4, .rel (MadeO w6 F 4 WrC 42 t.writes) (MadeO.stable WrC.mono _ _ _ _ _)), (5, .rel (fun u w => ∃ xa11 xc12, u = (.agg #[(.int .i64 t.start), (.slice none 0 0), (.slice xa11 t.writes.length xc12)]) ∧ MadeO w6 F 4 WrC 42 t.writes (.slice xa11 t.writes.length xc12) w) (fun u w w1 h hb => by obtain ⟨a, c, e, h⟩ := h; exact ⟨a, c, e, MadeO.stable WrC.mono _ _ _ _ _ _ _ _ h hb⟩)), (6, .rel (NewAt w6 [(.int .i64 0), (.slice none 0 0), (.slice none 0 0)] 63) (NewAt.stable _ _ _))] (by kernel_rfl) (by kernel_rfl) ?_
 simp only [List.take_succ_cons, List.take_zero]
 refine gw_pure rfl rfl (.pointer (some ⟨n2, 0, none⟩)) (fun w9 hCw9 => pureAt_of (ex_field (q := ⟨n2, 0, none⟩) rfl (fa_63_0 _ _))) ?_
 simp only [pS, pN, pA, pC, pZ]
 refine gw_pure rfl rfl (.int .i64 t.start) (fun w9 hCw9 => pureAt_of (ex_load rfl (load1 (nagg_3 _) (St.cell (St.tells S7 hCw9) (i := 1) rfl rfl)))) ?_
 simp only [pS, pN, pA, pC, pZ]
 refine gw_pure rfl rfl (.pointer (some ⟨n2, 2, none⟩)) (fun w9 hCw9 => pureAt_of (ex_field (q := ⟨n2, 2, none⟩) rfl (fa_63_2 _ _))) ?_
 simp only [pS, pN, pA, pC, pZ]
 refine gw_pure rfl rfl (.slice x1 t.writes.length y1) (fun w9 hCw9 => pureAt_of (ex_load rfl (load1 (nagg_61 _) (St.cell (St.tells S7 hCw9) (i := 1) rfl rfl)))) ?_
 simp only [pS, pN, pA, pC, pZ]
 refine gw_rel rfl rfl (fun w9 hCw9 hF => does_call (ex_fn (vs := #[(.slice x1 t.writes.length y1)]) (map1 rfl) rfl (ent_38 _ _)) (call_madeO S7.sat hCw9 (txnWritesO_spec _ _ _ t.writes ((St.tells S7 hCw9)).sat h1 hwl hws))) (fun v10 => ?_)
 simp only [pS, pN, pA, pC, pZ]
 refine gw_rel rfl rfl (fun w9 hCw9 hF_ => ?_) (fun v13 => ?_)
 ·obtain ⟨Fo, go, ho⟩ := hF_.getR 4 (by kernel_rfl) rfl rfl
  obtain ⟨xa11, xc12, rfl, _, _⟩ := ho.shape
  exact does_val (ex_build (bmap2 rfl rfl) (by kernel_rfl)) ⟨xa11, xc12, rfl, Fo, go, ho⟩ (Below.refl _ _)
 simp only [pS, pN, pA, pC, pZ]
 refine gw_rel rfl rfl (fun w9 hCw9 _ => does_alloc (cs := [(.int .i64 0), (.slice none 0 0), (.slice none 0 0)]) (zero_63 _) rfl hCw9) (fun v14 => ?_)
 simp only [pS, pN, pA, pC, pZ]
 refine gw_nil ?_
 intro w15 hC17 hF18
 obtain ⟨n19, rfl, hn20, hb21⟩ := hF18.getR 6 rfl rfl
 have hnbn19 : ∀ u ∈ [(.int .i64 0), (.slice none 0 0), (.slice none 0 0)], ∀ x, u ≠ bv x := by intro u hu x; simp only [List.mem_cons, List.not_mem_nil, or_false] at hu; rcases hu with rfl | rfl | rfl <;> (unfold bv; simp)
 obtain ⟨xa11, xc12, rfl, F22, g23, ho24⟩ := hF18.getR 5 rfl rfl
 have S25 := St.addBlkRow (hR := WrC.mono) (cs := [(.int .i64 0), (.slice none 0 0), (.slice none 0 0)]) S7 g23 ho24 hn20 hb21 (by decide) (WrC.dropF g23.sat hb21 hnbn19)
 have le26 : Le _ _ := (g23.dropF S7.sat hn20).le S7.sat
 generalize dropF F22 n19 = F27 at *
 clear hF18
 simp only [List.drop_succ_cons, List.drop_zero]
 have S25 : St w F w15 F27 [⟨n19, [(.int .i64 0), (.slice none 0 0), (.slice none 0 0)], 63⟩, ⟨n5, [(.int .i64 0), (.slice none 0 0), (.slice none 0 0)], 63⟩, ⟨n2, [(.int .i64 t.start), (.slice x0 t.reads.length y0), (.slice x1 t.writes.length y1)], 63⟩] [ownP 4 WrC WrC.mono 42 w.heap.size (.slice xa11 t.writes.length xc12) t.writes] := S25
 refine stStore (i := 0) (v := (.agg #[(.int .i64 t.start), (.slice none 0 0), (.slice xa11 t.writes.length xc12)])) S25 rfl rfl rfl rfl (size_63) (allc3 rfl rfl rfl) (Nat.le_of_ble_eq_true rfl) (fun w28 S29 => ?_)
 simp only [pS, pN, pA, pC, pZ]
 have S29 : St w F w28 F27 [⟨n19, [(.int .i64 t.start), (.slice none 0 0), (.slice xa11 t.writes.length xc12)], 63⟩, ⟨n5, [(.int .i64 0), (.slice none 0 0), (.slice none 0 0)], 63⟩, ⟨n2, [(.int .i64 t.start), (.slice x0 t.reads.length y0), (.slice x1 t.writes.length y1)], 63⟩] [ownP 4 WrC WrC.mono 42 w.heap.size (.slice xa11 t.writes.length xc12) t.writes] := S29
 refine wl_nil (hK8 _ _ ?_)
 refine wp_seq_k (fun K30 hK30 => ?_)
 refine wp_seq_k (fun K31 hK31 => region_wl ?_)
 refine do_ rfl (.pointer (some ⟨n2, 1, none⟩)) (ex_field (q := ⟨n2, 1, none⟩) rfl (fa_63_1 _ _)) ?_
 simp only [pS, pN, pA, pC, pZ]
 refine do_ rfl (.slice x0 t.reads.length y0) (ex_load rfl (load1 (nagg_60 _) (St.cell S29 (i := 2) rfl rfl))) ?_
 simp only [pS, pN, pA, pC, pZ]
 refine do_ rfl (.int .i64 ((t.reads.length : Nat) : Int)) (ex_len Tryd.underlying60 rfl) ?_
 simp only [pS, pN, pA, pC, pZ]
 refine do_ rfl (.int .i64 0) (ex_move _) ?_
 simp only [pS, pN, pA, pC, pZ]
 refine wl_nil (hK31 _ _ ?_)
 refine wp_block ?_
 have S32 := St.addNil S29 4 RdC RdC.mono 38 w.heap.size
 refine wp_loop_g (fun mm aa w35 => ∃ (k : Nat) (v : Value) (F33 : Fz) (u34 : Nat → Value), mm = t.reads.length - k ∧ u34 = slots aa ∧ aa = ⟨#[(.agg #[(.int .i64 t.start), (.slice x0 t.reads.length y0), (.slice x1 t.writes.length y1)]), (.pointer (some ⟨n2, 0, none⟩)), (.pointer (some ⟨n5, 0, none⟩)), (.pointer (some ⟨n19, 0, none⟩)), undef, (u34 5), (.pointer (some ⟨n2, 0, none⟩)), (.int .i64 t.start), (.pointer (some ⟨n2, 2, none⟩)), (.slice x1 t.writes.length y1), v10, (.agg #[(.int .i64 t.start), (.slice none 0 0), (.slice xa11 t.writes.length xc12)]), (.pointer (some ⟨n2, 1, none⟩)), (.slice x0 t.reads.length y0), (.int .i64 ((t.reads.length : Nat) : Int)), (.int .i64 ((k : Nat) : Int)), (u34 16), (u34 17), (u34 18), (u34 19), (u34 20), (u34 21), (u34 22), (u34 23), (u34 24), (u34 25), (u34 26), undef], []⟩ ∧ St w F w35 F33 [⟨n19, [(.int .i64 t.start), v, (.slice xa11 t.writes.length xc12)], 63⟩, ⟨n5, [(.int .i64 0), (.slice none 0 0), (.slice none 0 0)], 63⟩, ⟨n2, [(.int .i64 t.start), (.slice x0 t.reads.length y0), (.slice x1 t.writes.length y1)], 63⟩] [ownP 4 RdC RdC.mono 38 w.heap.size v (t.reads.take k), ownP 4 WrC WrC.mono 42 w.heap.size (.slice xa11 t.writes.length xc12) t.writes] ∧ Le F27 F33 ∧ (k ≤ t.reads.length)) _ ⟨0, (.slice none 0 0), F27, _, rfl, rfl, rfl, S32, Le.refl _, (by omega)⟩ ?_
 rintro m36 a37 w38 ⟨k, v, F33, u34, rfl, -, rfl, S39, le40, hk⟩ K41 hK41
 refine wp_seq_k (fun K42 hK42 => region_wl ?_)
 by_cases hc16 : k < t.reads.length
 ·refine do_ rfl (.bool true) (ex_lss (m := ((k : Nat) : Int)) (n := ((t.reads.length : Nat) : Int)) (b := true) rfl rfl (decide_eq_true (by omega))) ?_
  simp only [pS, pN, pA, pC, pZ]
  refine wl_nil (hK42 _ _ ?_)
  refine wp_seq_k (fun K43 hK43 => ?_)
  refine wp_cond_true rfl ?_
  refine wp_skip ?_
  refine hK43 _ _ ?_
  refine wp_seq_k (fun K44 hK44 => ?_)
  refine wp_block ?_
  refine wp_seq_k (fun K45 hK45 => ?_)
  obtain ⟨p, hp⟩ : ∃ p, t.reads[k]? = some p := ⟨t.reads[k], List.getElem?_eq_getElem hc16⟩
  obtain ⟨hb0, hb1, hb2⟩ := (ht.reads p (List.mem_of_getElem? hp)).small
  have htk : (t.reads.take k).length = k := by rw [List.length_take]; omega
  obtain ⟨b46, o47, ha48, xa50, xc51, xa54, xc55, xa59, xc60, c49, c53, c57, c58, r52, r56, r61⟩ := Rds.get (h0.mono (le26.trans le40)) hp
  refine region_wl ?_
  refine do_ rfl (.pointer (some ⟨b46, o47 + k * 4, none⟩)) (ex_at (i := k) (sz := 4) Tryd.underlying60 (sizeof_38 _) rfl ha48 rfl (by omega) rfl) ?_
  simp only [pS, pN, pA, pC, pZ]
  refine do_ rfl (.agg #[(.slice xa50 p.name.length xc51), (.slice xa54 p.key.length xc55), (.bool p.wide), (.slice xa59 p.last.length xc60)]) (ex_load rfl (loadN (cs := [(.slice xa50 p.name.length xc51), (.slice xa54 p.key.length xc55), (.bool p.wide), (.slice xa59 p.last.length xc60)]) Tryd.underlying38 rfl (size_38) (range4 (St.fz S39 c49) (St.fz S39 c53) (St.fz S39 c57) (St.fz S39 c58)))) ?_
  simp only [pS, pN, pA, pC, pZ]
  refine stNew S39 (v := fun n => .pointer (some ⟨n, 0, none⟩)) rfl (ex_alloc (zero_38 _)) (fun n62 w63 S64 => ?_)
  simp only [pS, pN, pA, pC, pZ]
  have S64 : St w F w63 F33 [⟨n62, [(.slice none 0 0), (.slice none 0 0), (.bool false), (.slice none 0 0)], 38⟩, ⟨n19, [(.int .i64 t.start), v, (.slice xa11 t.writes.length xc12)], 63⟩, ⟨n5, [(.int .i64 0), (.slice none 0 0), (.slice none 0 0)], 63⟩, ⟨n2, [(.int .i64 t.start), (.slice x0 t.reads.length y0), (.slice x1 t.writes.length y1)], 63⟩] [ownP 4 RdC RdC.mono 38 w.heap.size v (t.reads.take k), ownP 4 WrC WrC.mono 42 w.heap.size (.slice xa11 t.writes.length xc12) t.writes] := S64
  refine stStore (i := 0) (v := (.agg #[(.slice xa50 p.name.length xc51), (.slice xa54 p.key.length xc55), (.bool p.wide), (.slice xa59 p.last.length xc60)])) S64 rfl rfl rfl rfl (size_38) (allc4 rfl rfl rfl rfl) (Nat.le_of_ble_eq_true rfl) (fun w65 S66 => ?_)
  simp only [pS, pN, pA, pC, pZ]
  have S66 : St w F w65 F33 [⟨n62, [(.slice xa50 p.name.length xc51), (.slice xa54 p.key.length xc55), (.bool p.wide), (.slice xa59 p.last.length xc60)], 38⟩, ⟨n19, [(.int .i64 t.start), v, (.slice xa11 t.writes.length xc12)], 63⟩, ⟨n5, [(.int .i64 0), (.slice none 0 0), (.slice none 0 0)], 63⟩, ⟨n2, [(.int .i64 t.start), (.slice x0 t.reads.length y0), (.slice x1 t.writes.length y1)], 63⟩] [ownP 4 RdC RdC.mono 38 w.heap.size v (t.reads.take k), ownP 4 WrC WrC.mono 42 w.heap.size (.slice xa11 t.writes.length xc12) t.writes] := S66
  refine wl_nil (hK45 _ _ ?_)
  refine region_gw F33 5 [(3, .made (fun F' u => RdV F' u p)), (4, .made (fun F' u => Rds F' u [p]))] (by kernel_rfl) (by kernel_rfl) ?_
  simp only [List.take_succ_cons, List.take_zero]
  refine gw_pure rfl rfl (.pointer (some ⟨n19, 1, none⟩)) (fun w67 hCw67 => pureAt_of (ex_field (q := ⟨n19, 1, none⟩) rfl (fa_63_1 _ _))) ?_
  simp only [pS, pN, pA, pC, pZ]
  refine gw_pure rfl rfl v (fun w67 hCw67 => pureAt_of (ex_load rfl (load1 (nagg_60 _) (St.cell (St.tells S66 hCw67) (i := 1) rfl rfl)))) ?_
  simp only [pS, pN, pA, pC, pZ]
  refine gw_pure rfl rfl (.agg #[(.slice xa50 p.name.length xc51), (.slice xa54 p.key.length xc55), (.bool p.wide), (.slice xa59 p.last.length xc60)]) (fun w67 hCw67 => pureAt_of (ex_load rfl (loadN (cs := [(.slice xa50 p.name.length xc51), (.slice xa54 p.key.length xc55), (.bool p.wide), (.slice xa59 p.last.length xc60)]) Tryd.underlying38 rfl (size_38) (St.range (St.tells S66 hCw67) (i := 0) rfl 0 [(.slice xa50 p.name.length xc51), (.slice xa54 p.key.length xc55), (.bool p.wide), (.slice xa59 p.last.length xc60)] (sub_range 0 rfl))))) ?_
  simp only [pS, pN, pA, pC, pZ]
  refine gw_rel rfl rfl (fun w67 hCw67 hF => does_call (ex_fn (vs := #[(.agg #[(.slice xa50 p.name.length xc51), (.slice xa54 p.key.length xc55), (.bool p.wide), (.slice xa59 p.last.length xc60)])]) (map1 rfl) rfl (ent_36 _ _)) (call_made S66.sat hCw67 (read_spec _ _ _ p ((St.tells S66 hCw67)).sat ⟨_, _, _, _, _, _, rfl, r52, r56, r61⟩ hb0 hb1 hb2))) (fun v68 => ?_)
  simp only [pS, pN, pA, pC, pZ]
  refine gw_rel rfl rfl (fun w67 hCw67 hF_ => ?_) (fun v81 => ?_)
  ·obtain ⟨F78, g79, R80⟩ := hF_.get 3 (by kernel_rfl) rfl rfl
   obtain ⟨xa69, xc70, xa72, xc73, xa75, xc76, rfl, r71, r74, r77⟩ := R80
   exact does_lit (k := 4) (R := RdC) (hR := RdC.mono) (p := p) (cs := [.slice xa69 _ xc70, .slice xa72 _ xc73, _, .slice xa75 _ xc76]) (E := 38) g79 ⟨_, _, _, _, rfl, r71, r74, rfl, r77⟩ rfl (ex_lit (E := 38) (cells := #[.slice xa69 _ xc70, .slice xa72 _ xc73, _, .slice xa75 _ xc76]) (bmap1 rfl) (fun w => by kernel_rfl))
  simp only [pS, pN, pA, pC, pZ]
  refine gw_nil ?_
  intro w82 hC84 hF85
  obtain ⟨F86, g87, R88⟩ := hF85.get 4 rfl rfl
  have S83 := St.gives S66 g87
  have le90 : Le _ _ := g87.le S66.sat
  have R91 := R88
  generalize F86 = F89 at *
  obtain ⟨xa92, xc93, rfl, _⟩ := Sl.shape R91
  clear hF85
  simp only [List.drop_succ_cons, List.drop_zero]
  refine stAppendS (r := 0) (u := (.slice xa92 [p].length xc93)) S83 rfl i38 (.agg #[(.slice none 0 0), (.slice none 0 0), (.bool false), (.slice none 0 0)]) 80 Tryd.underlying60 hi38 hz38 hs38 hb38 rfl (by decide) rfl rfl rfl (Sl.toW R91 (S83).sat) (fun F cs p h => RdC.oneCell h) (Nat.le_refl _) S83.gr.below.size (by unfold maxLen; simp only [List.length_take, List.length_cons, List.length_nil]; omega) (by simp only [List.length_take, List.length_cons, List.length_nil]; omega) ?_
  intro v94 w95 S96 hn97
  simp only [pS, pN, pA, pC, pZ]
  have S96 : St w F w95 F89 [⟨n62, [(.slice xa50 p.name.length xc51), (.slice xa54 p.key.length xc55), (.bool p.wide), (.slice xa59 p.last.length xc60)], 38⟩, ⟨n19, [(.int .i64 t.start), v, (.slice xa11 t.writes.length xc12)], 63⟩, ⟨n5, [(.int .i64 0), (.slice none 0 0), (.slice none 0 0)], 63⟩, ⟨n2, [(.int .i64 t.start), (.slice x0 t.reads.length y0), (.slice x1 t.writes.length y1)], 63⟩] [ownP 4 RdC RdC.mono 38 w.heap.size v94 ((t.reads.take k) ++ [p]), ownP 4 WrC WrC.mono 42 w.heap.size (.slice xa11 t.writes.length xc12) t.writes] := S96
  have hpe : (⟨p.name, p.key, p.wide, p.last⟩ : Rd) = p := rfl
  rw [← take_snoc hp] at S96
  obtain ⟨a98, cap99, rfl, h100, h101⟩ := (S96.own (i := 0) rfl).shape
  unfold maxLen at h101
  refine do_ rfl (.pointer (some ⟨n19, 1, none⟩)) (ex_field (q := ⟨n19, 1, none⟩) rfl (fa_63_1 _ _)) ?_
  simp only [pS, pN, pA, pC, pZ]
  refine stStore (i := 1) (v := (.slice a98 (t.reads.take (k + 1)).length cap99)) S96 rfl rfl rfl rfl (size_60) (allc1 rfl) (Nat.le_of_ble_eq_true rfl) (fun w102 S103 => ?_)
  simp only [pS, pN, pA, pC, pZ]
  have S103 : St w F w102 F89 [⟨n62, [(.slice xa50 p.name.length xc51), (.slice xa54 p.key.length xc55), (.bool p.wide), (.slice xa59 p.last.length xc60)], 38⟩, ⟨n19, [(.int .i64 t.start), (.slice a98 (t.reads.take (k + 1)).length cap99), (.slice xa11 t.writes.length xc12)], 63⟩, ⟨n5, [(.int .i64 0), (.slice none 0 0), (.slice none 0 0)], 63⟩, ⟨n2, [(.int .i64 t.start), (.slice x0 t.reads.length y0), (.slice x1 t.writes.length y1)], 63⟩] [ownP 4 RdC RdC.mono 38 w.heap.size (.slice a98 (t.reads.take (k + 1)).length cap99) (t.reads.take (k + 1)), ownP 4 WrC WrC.mono 42 w.heap.size (.slice xa11 t.writes.length xc12) t.writes] := S103
  refine wl_nil (hK44 _ _ ?_)
  refine region_wl ?_
  refine do_ rfl (.int .i64 (((k + 1) : Nat) : Int)) (ex_add (m := ((k : Nat) : Int)) (n := (1 : Int)) (r := (((k + 1) : Nat) : Int)) rfl rfl (by omega) (by omega) (by omega)) ?_
  simp only [pS, pN, pA, pC, pZ]
  refine do_ rfl (.int .i64 (((k + 1) : Nat) : Int)) (ex_move _) ?_
  simp only [pS, pN, pA, pC, pZ]
  refine wl_nil ?_
  have S103 := St.drop S103 (L' := [⟨n19, [(.int .i64 t.start), (.slice a98 (t.reads.take (k + 1)).length cap99), (.slice xa11 t.writes.length xc12)], 63⟩, ⟨n5, [(.int .i64 0), (.slice none 0 0), (.slice none 0 0)], 63⟩, ⟨n2, [(.int .i64 t.start), (.slice x0 t.reads.length y0), (.slice x1 t.writes.length y1)], 63⟩]) (.cons _ (List.Sublist.refl _))
  exact hK41 _ _ _ (by omega) ⟨(k + 1), (.slice a98 (t.reads.take (k + 1)).length cap99), F89, _, rfl, rfl, rfl, S103, (le40.trans le90), (by omega)⟩
 ·refine do_ rfl (.bool false) (ex_lss (m := ((k : Nat) : Int)) (n := ((t.reads.length : Nat) : Int)) (b := false) rfl rfl (decide_eq_false (by omega))) ?_
  simp only [pS, pN, pA, pC, pZ]
  refine wl_nil (hK42 _ _ ?_)
  refine wp_seq_k (fun K104 hK104 => ?_)
  refine wp_cond_false rfl ?_
  refine wp_exit ?_
  refine hK30 _ _ ?_
  refine wp_seq_k (fun K105 hK105 => ?_)
  have hend : t.reads.take k = t.reads := List.take_of_length_le (by omega)
  rw [hend] at S39
  obtain ⟨a106, cap107, rfl, h108, h109⟩ := (S39.own (i := 0) rfl).shape
  unfold maxLen at h109
  refine region_wl ?_
  refine do_ rfl (.agg #[(.int .i64 t.start), (.slice a106 t.reads.length cap107), (.slice xa11 t.writes.length xc12)]) (ex_load rfl (loadN (cs := [(.int .i64 t.start), (.slice a106 t.reads.length cap107), (.slice xa11 t.writes.length xc12)]) Tryd.underlying63 rfl (size_63) (St.range S39 (i := 0) rfl 0 [(.int .i64 t.start), (.slice a106 t.reads.length cap107), (.slice xa11 t.writes.length xc12)] (sub_range 0 rfl)))) ?_
  simp only [pS, pN, pA, pC, pZ]
  refine stStore (i := 1) (v := (.agg #[(.int .i64 t.start), (.slice a106 t.reads.length cap107), (.slice xa11 t.writes.length xc12)])) S39 rfl rfl rfl rfl (size_63) (allc3 rfl rfl rfl) (Nat.le_of_ble_eq_true rfl) (fun w110 S111 => ?_)
  simp only [pS, pN, pA, pC, pZ]
  have S111 : St w F w110 F33 [⟨n19, [(.int .i64 t.start), (.slice a106 t.reads.length cap107), (.slice xa11 t.writes.length xc12)], 63⟩, ⟨n5, [(.int .i64 t.start), (.slice a106 t.reads.length cap107), (.slice xa11 t.writes.length xc12)], 63⟩, ⟨n2, [(.int .i64 t.start), (.slice x0 t.reads.length y0), (.slice x1 t.writes.length y1)], 63⟩] [ownP 4 RdC RdC.mono 38 w.heap.size (.slice a106 t.reads.length cap107) t.reads, ownP 4 WrC WrC.mono 42 w.heap.size (.slice xa11 t.writes.length xc12) t.writes] := S111
  refine wl_nil (hK105 _ _ ?_)
  refine wp_ret ?_
  (try simp only [Exit.then, Exit.inBlock, ↓reduceIte, Nat.reduceEqDiff])
  refine bodyPost_ret (v := (.agg #[(.int .i64 t.start), (.slice a106 t.reads.length cap107), (.slice xa11 t.writes.length xc12)])) ?_ rfl ?_
  ·exact res_c rfl ⟨_, rfl, loadN (cs := [(.int .i64 t.start), (.slice a106 t.reads.length cap107), (.slice xa11 t.writes.length xc12)]) Tryd.underlying63 rfl (size_63) (St.range S111 (i := 1) rfl 0 [(.int .i64 t.start), (.slice a106 t.reads.length cap107), (.slice xa11 t.writes.length xc12)] (sub_range 0 rfl))⟩
  ·exact ⟨_, _, _, rfl, S111.gr, S111.own (i := 0) rfl, S111.own (i := 1) rfl⟩
set_option maxHeartbeats 8000000 in
theorem txnNote_spec (F : Fz) (w : World) (v u : Value) (t : Tx) (r : Rd) (hs : Sat w F) (hv : TxV F v t) (hu : RdV F u r) (hbw : ∀ r ∈ t.writes, r.name.length ≤ 100000 ∧ r.key.length ≤ 100000 ∧ r.value.length ≤ 100000) :
    Calls Tryd.prog 25 #[v, u] w (Gives w F fun F' u => TxE F' u (noteT t r) (noteE t r)) := by
 obtain ⟨x0, y0, x1, y1, rfl, h0, h1⟩ := hv
 obtain ⟨_, _, e0, q0, q1⟩ := Sl.shape h0
 obtain ⟨_, _, e1, q2, q3⟩ := Sl.shape h1
 injection e0 with _ _ e0
 injection e1 with _ _ e1
 subst e0 e1
 unfold maxLen at q1 q3
 obtain ⟨z0, z1, z2, z3, z4, z5, rfl, k0, k1, k3⟩ := hu
 obtain ⟨i38, hi38, hz38, hs38, hb38⟩ := info_parts info_38
 have S := St.start hs
 go_enter Tryd.func25, Tryd.ntmps25
 refine wp_seq_k (fun K1 hK1 => region_wl ?_)
 refine stNew S (v := fun n => .pointer (some ⟨n, 0, none⟩)) rfl (ex_box (v := (.agg #[(.int .i64 t.start), (.slice x0 t.reads.length y0), (.slice x1 t.writes.length y1)])) rfl) (fun n2 w3 S4 => ?_)
 simp only [pS, pN, pA, pC, pZ]
 have S4 : St w F w3 F [⟨n2, [(.int .i64 t.start), (.slice x0 t.reads.length y0), (.slice x1 t.writes.length y1)], 63⟩] [] := S4
 refine stNew S4 (v := fun n => .pointer (some ⟨n, 0, none⟩)) rfl (ex_box (v := (.agg #[(.slice z0 r.name.length z1), (.slice z2 r.key.length z3), (.bool r.wide), (.slice z4 r.last.length z5)])) rfl) (fun n5 w6 S7 => ?_)
 simp only [pS, pN, pA, pC, pZ]
 have S7 : St w F w6 F [⟨n5, [(.slice z0 r.name.length z1), (.slice z2 r.key.length z3), (.bool r.wide), (.slice z4 r.last.length z5)], 38⟩, ⟨n2, [(.int .i64 t.start), (.slice x0 t.reads.length y0), (.slice x1 t.writes.length y1)], 63⟩] [] := S7
 refine stNew S7 (v := fun n => .pointer (some ⟨n, 0, none⟩)) rfl (ex_alloc (zero_63 _)) (fun n8 w9 S10 => ?_)
 simp only [pS, pN, pA, pC, pZ]
 have S10 : St w F w9 F [⟨n8, [(.int .i64 0), (.slice none 0 0), (.slice none 0 0)], 63⟩, ⟨n5, [(.slice z0 r.name.length z1), (.slice z2 r.key.length z3), (.bool r.wide), (.slice z4 r.last.length z5)], 38⟩, ⟨n2, [(.int .i64 t.start), (.slice x0 t.reads.length y0), (.slice x1 t.writes.length y1)], 63⟩] [] := S10
 refine do_ rfl (.int .i64 0) (ex_assign _) ?_
 simp only [pS, pN, pA, pC, pZ]
 refine wl_nil (hK1 _ _ ?_)
 refine wp_seq_k (fun K11 hK11 => ?_)
 refine wp_seq_k (fun K12 hK12 => region_wl ?_)
 refine do_ rfl (.agg #[(.int .i64 t.start), (.slice x0 t.reads.length y0), (.slice x1 t.writes.length y1)]) (ex_load rfl (loadN (cs := [(.int .i64 t.start), (.slice x0 t.reads.length y0), (.slice x1 t.writes.length y1)]) Tryd.underlying63 rfl (size_63) (St.range S10 (i := 2) rfl 0 [(.int .i64 t.start), (.slice x0 t.reads.length y0), (.slice x1 t.writes.length y1)] (sub_range 0 rfl)))) ?_
 simp only [pS, pN, pA, pC, pZ]
 refine stTells (v := (.int .i64 (txE t))) S10 rfl (ex_fn (vs := #[(.agg #[(.int .i64 t.start), (.slice x0 t.reads.length y0), (.slice x1 t.writes.length y1)])]) (map1 rfl) rfl (ent_30 _ _)) (txnCheck_spec _ _ _ t (S10).sat ⟨_, _, _, _, rfl, h0, h1⟩ hbw) (fun w13 S14 => ?_)
 simp only [pS, pN, pA, pC, pZ]
 refine do_ rfl (.int .i64 (txE t)) (ex_assign _) ?_
 simp only [pS, pN, pA, pC, pZ]
 refine wl_nil (hK12 _ _ ?_)
 refine wp_seq_k (fun K15 hK15 => region_wl ?_)
 refine do_ rfl (.int .i64 (txE t)) (ex_move _) ?_
 simp only [pS, pN, pA, pC, pZ]
 by_cases hc12 : (txE t) = (0 : Int)
 ·refine do_ rfl (.bool false) (ex_neq (m := (txE t)) (n := (0 : Int)) (b := false) rfl rfl (bne_eq_false_iff_eq.2 (by omega))) ?_
  simp only [pS, pN, pA, pC, pZ]
  refine wl_nil (hK15 _ _ ?_)
  refine wp_cond_false rfl ?_
  refine wp_skip ?_
  refine hK11 _ _ ?_
  refine wp_seq_k (fun K16 hK16 => ?_)
  refine wp_seq_k (fun K17 hK17 => ?_)
  have ht : TxOk t := txE_ok.1 (by omega)
  have hnr := ht.nr
  refine region_wl ?_
  refine do_ rfl (.agg #[(.slice z0 r.name.length z1), (.slice z2 r.key.length z3), (.bool r.wide), (.slice z4 r.last.length z5)]) (ex_load rfl (loadN (cs := [(.slice z0 r.name.length z1), (.slice z2 r.key.length z3), (.bool r.wide), (.slice z4 r.last.length z5)]) Tryd.underlying38 rfl (size_38) (St.range S14 (i := 1) rfl 0 [(.slice z0 r.name.length z1), (.slice z2 r.key.length z3), (.bool r.wide), (.slice z4 r.last.length z5)] (sub_range 0 rfl)))) ?_
  simp only [pS, pN, pA, pC, pZ]
  refine stTells (v := (.int .i64 (rdE r))) S14 rfl (ex_fn (vs := #[(.agg #[(.slice z0 r.name.length z1), (.slice z2 r.key.length z3), (.bool r.wide), (.slice z4 r.last.length z5)])]) (map1 rfl) rfl (ent_31 _ _)) (shape_spec _ _ _ r (S14).sat ⟨_, _, _, _, _, _, rfl, k0, k1, k3⟩) (fun w18 S19 => ?_)
  simp only [pS, pN, pA, pC, pZ]
  refine do_ rfl (.int .i64 (rdE r)) (ex_assign _) ?_
  simp only [pS, pN, pA, pC, pZ]
  refine wl_nil (hK17 _ _ ?_)
  refine wp_seq_k (fun K20 hK20 => region_wl ?_)
  refine do_ rfl (.int .i64 (rdE r)) (ex_move _) ?_
  simp only [pS, pN, pA, pC, pZ]
  by_cases hc18 : (rdE r) = (0 : Int)
  ·refine do_ rfl (.bool false) (ex_neq (m := (rdE r)) (n := (0 : Int)) (b := false) rfl rfl (bne_eq_false_iff_eq.2 (by omega))) ?_
   simp only [pS, pN, pA, pC, pZ]
   refine wl_nil (hK20 _ _ ?_)
   refine wp_cond_false rfl ?_
   refine wp_skip ?_
   refine hK16 _ _ ?_
   refine wp_seq_k (fun K21 hK21 => ?_)
   have hr : RdOk r := rdE_ok.1 (by omega)
   obtain ⟨hb0, hb1, hb2⟩ := hr.small
   refine region_wl ?_
   refine do_ rfl (.agg #[(.int .i64 t.start), (.slice x0 t.reads.length y0), (.slice x1 t.writes.length y1)]) (ex_load rfl (loadN (cs := [(.int .i64 t.start), (.slice x0 t.reads.length y0), (.slice x1 t.writes.length y1)]) Tryd.underlying63 rfl (size_63) (St.range S19 (i := 2) rfl 0 [(.int .i64 t.start), (.slice x0 t.reads.length y0), (.slice x1 t.writes.length y1)] (sub_range 0 rfl)))) ?_
   simp only [pS, pN, pA, pC, pZ]
   refine stGivesTx S19 rfl (ex_fn (vs := #[(.agg #[(.int .i64 t.start), (.slice x0 t.reads.length y0), (.slice x1 t.writes.length y1)])]) (map1 rfl) rfl (ent_32 _ _)) (txnOwn_spec _ _ _ t (S19).sat ⟨_, _, _, _, rfl, h0, h1⟩ ht) (by decide) ?_
   intro a22 c23 a24 c25 w26 F27 S28 le29 hc30 hc31
   unfold maxLen at hc30 hc31
   simp only [pS, pN, pA, pC, pZ]
   have S28 : St w F w26 F27 [⟨n8, [(.int .i64 0), (.slice none 0 0), (.slice none 0 0)], 63⟩, ⟨n5, [(.slice z0 r.name.length z1), (.slice z2 r.key.length z3), (.bool r.wide), (.slice z4 r.last.length z5)], 38⟩, ⟨n2, [(.int .i64 t.start), (.slice x0 t.reads.length y0), (.slice x1 t.writes.length y1)], 63⟩] [ownP 4 RdC RdC.mono 38 w.heap.size (.slice a22 t.reads.length c23) t.reads, ownP 4 WrC WrC.mono 42 w.heap.size (.slice a24 t.writes.length c25) t.writes] := S28
   refine stNew S28 (v := fun n => .pointer (some ⟨n, 0, none⟩)) rfl (ex_alloc (zero_63 _)) (fun n32 w33 S34 => ?_)
   simp only [pS, pN, pA, pC, pZ]
   have S34 : St w F w33 F27 [⟨n32, [(.int .i64 0), (.slice none 0 0), (.slice none 0 0)], 63⟩, ⟨n8, [(.int .i64 0), (.slice none 0 0), (.slice none 0 0)], 63⟩, ⟨n5, [(.slice z0 r.name.length z1), (.slice z2 r.key.length z3), (.bool r.wide), (.slice z4 r.last.length z5)], 38⟩, ⟨n2, [(.int .i64 t.start), (.slice x0 t.reads.length y0), (.slice x1 t.writes.length y1)], 63⟩] [ownP 4 RdC RdC.mono 38 w.heap.size (.slice a22 t.reads.length c23) t.reads, ownP 4 WrC WrC.mono 42 w.heap.size (.slice a24 t.writes.length c25) t.writes] := S34
   refine stStore (i := 0) (v := (.agg #[(.int .i64 t.start), (.slice a22 t.reads.length c23), (.slice a24 t.writes.length c25)])) S34 rfl rfl rfl rfl (size_63) (allc3 rfl rfl rfl) (Nat.le_of_ble_eq_true rfl) (fun w35 S36 => ?_)
   simp only [pS, pN, pA, pC, pZ]
   have S36 : St w F w35 F27 [⟨n32, [(.int .i64 t.start), (.slice a22 t.reads.length c23), (.slice a24 t.writes.length c25)], 63⟩, ⟨n8, [(.int .i64 0), (.slice none 0 0), (.slice none 0 0)], 63⟩, ⟨n5, [(.slice z0 r.name.length z1), (.slice z2 r.key.length z3), (.bool r.wide), (.slice z4 r.last.length z5)], 38⟩, ⟨n2, [(.int .i64 t.start), (.slice x0 t.reads.length y0), (.slice x1 t.writes.length y1)], 63⟩] [ownP 4 RdC RdC.mono 38 w.heap.size (.slice a22 t.reads.length c23) t.reads, ownP 4 WrC WrC.mono 42 w.heap.size (.slice a24 t.writes.length c25) t.writes] := S36
   refine wl_nil (hK21 _ _ ?_)
   refine wp_seq_k (fun K37 hK37 => ?_)
   refine wp_block ?_
   refine wp_seq_k (fun K38 hK38 => ?_)
   obtain ⟨S39, le40, hc41⟩ := St.freezeBlk S36 (i := 2) rfl
   have r43 : RdP _ n5 r := ⟨_, _, _, _, _, _, hc41 0 _ rfl, hc41 1 _ rfl, hc41 2 _ rfl, hc41 3 _ rfl, ((k0.mono le29).mono le40), ((k1.mono le29).mono le40), ((k3.mono le29).mono le40)⟩
   generalize addF F27 w35 n5 = F42 at *
   have S39 : St w F w35 F42 [⟨n32, [(.int .i64 t.start), (.slice a22 t.reads.length c23), (.slice a24 t.writes.length c25)], 63⟩, ⟨n8, [(.int .i64 0), (.slice none 0 0), (.slice none 0 0)], 63⟩, ⟨n2, [(.int .i64 t.start), (.slice x0 t.reads.length y0), (.slice x1 t.writes.length y1)], 63⟩] [ownP 4 RdC RdC.mono 38 w.heap.size (.slice a22 t.reads.length c23) t.reads, ownP 4 WrC WrC.mono 42 w.heap.size (.slice a24 t.writes.length c25) t.writes] := S39
   refine region_wl ?_
   refine do_ rfl (.pointer (some ⟨n2, 1, none⟩)) (ex_field (q := ⟨n2, 1, none⟩) rfl (fa_63_1 _ _)) ?_
   simp only [pS, pN, pA, pC, pZ]
   refine do_ rfl (.slice x0 t.reads.length y0) (ex_load rfl (load1 (nagg_60 _) (St.cell S39 (i := 2) rfl rfl))) ?_
   simp only [pS, pN, pA, pC, pZ]
   refine do_ rfl (.func (.func 34) #[] #[(.pointer (some ⟨n5, 0, none⟩))]) (ex_makeFunc rfl) ?_
   simp only [pS, pN, pA, pC, pZ]
   refine stTells (v := (.bool (t.reads.any (fun q => decide (q = r))))) S39 rfl (ex_fn (vs := #[(.slice x0 t.reads.length y0), (.func (.func 34) #[] #[(.pointer (some ⟨n5, 0, none⟩))])]) (map2 rfl rfl) rfl (ent_33 _ _)) (note1_contains _ _ _ n5 t.reads r (S39).sat (h0.mono (le29.trans le40)) r43 (by omega)) (fun w57 S58 => ?_)
   simp only [pS, pN, pA, pC, pZ]
   refine do_ rfl (.bool (t.reads.any (fun q => decide (q = r)))) (ex_assign _) ?_
   simp only [pS, pN, pA, pC, pZ]
   refine wl_nil (hK38 _ _ ?_)
   refine wp_cond_split rfl (fun hc59 => ?_) (fun hc59 => ?_)
   ·refine wp_skip ?_
    refine hK37 _ _ ?_
    refine wp_seq_k (fun K60 hK60 => ?_)
    obtain ⟨F61, S62, le63, hv64⟩ := St.freeze S58 (i := 0) rfl (Nat.le_refl _)
    have S62 : St w F w57 F61 [⟨n32, [(.int .i64 t.start), (.slice a22 t.reads.length c23), (.slice a24 t.writes.length c25)], 63⟩, ⟨n8, [(.int .i64 0), (.slice none 0 0), (.slice none 0 0)], 63⟩, ⟨n2, [(.int .i64 t.start), (.slice x0 t.reads.length y0), (.slice x1 t.writes.length y1)], 63⟩] [ownP 4 WrC WrC.mono 42 w.heap.size (.slice a24 t.writes.length c25) t.writes] := S62
    have hv64 : Rds _ (.slice a22 t.reads.length c23) t.reads := hv64
    obtain ⟨F65, S66, le67, hv68⟩ := St.freeze S62 (i := 0) rfl (Nat.le_refl _)
    have S66 : St w F w57 F65 [⟨n32, [(.int .i64 t.start), (.slice a22 t.reads.length c23), (.slice a24 t.writes.length c25)], 63⟩, ⟨n8, [(.int .i64 0), (.slice none 0 0), (.slice none 0 0)], 63⟩, ⟨n2, [(.int .i64 t.start), (.slice x0 t.reads.length y0), (.slice x1 t.writes.length y1)], 63⟩] [] := S66
    have hv68 : Wrs _ (.slice a24 t.writes.length c25) t.writes := hv68
    refine region_wl ?_
    refine do_ rfl (.agg #[(.int .i64 t.start), (.slice a22 t.reads.length c23), (.slice a24 t.writes.length c25)]) (ex_load rfl (loadN (cs := [(.int .i64 t.start), (.slice a22 t.reads.length c23), (.slice a24 t.writes.length c25)]) Tryd.underlying63 rfl (size_63) (St.range S66 (i := 0) rfl 0 [(.int .i64 t.start), (.slice a22 t.reads.length c23), (.slice a24 t.writes.length c25)] (sub_range 0 rfl)))) ?_
    simp only [pS, pN, pA, pC, pZ]
    refine stStore (i := 1) (v := (.agg #[(.int .i64 t.start), (.slice a22 t.reads.length c23), (.slice a24 t.writes.length c25)])) S66 rfl rfl rfl rfl (size_63) (allc3 rfl rfl rfl) (Nat.le_of_ble_eq_true rfl) (fun w69 S70 => ?_)
    simp only [pS, pN, pA, pC, pZ]
    have S70 : St w F w69 F65 [⟨n32, [(.int .i64 t.start), (.slice a22 t.reads.length c23), (.slice a24 t.writes.length c25)], 63⟩, ⟨n8, [(.int .i64 t.start), (.slice a22 t.reads.length c23), (.slice a24 t.writes.length c25)], 63⟩, ⟨n2, [(.int .i64 t.start), (.slice x0 t.reads.length y0), (.slice x1 t.writes.length y1)], 63⟩] [] := S70
    refine do_ rfl (.int .i64 0) (ex_assign _) ?_
    simp only [pS, pN, pA, pC, pZ]
    refine wl_nil (hK60 _ _ ?_)
    refine wp_ret ?_
    (try simp only [Exit.then, Exit.inBlock, ↓reduceIte, Nat.reduceEqDiff])
    refine bodyPost_ret (v := (.tuple #[(.agg #[(.int .i64 t.start), (.slice a22 t.reads.length c23), (.slice a24 t.writes.length c25)]), (.int .i64 0)])) ?_ rfl ?_
    ·exact res_ct rfl ⟨_, rfl, loadN (cs := [(.int .i64 t.start), (.slice a22 t.reads.length c23), (.slice a24 t.writes.length c25)]) Tryd.underlying63 rfl (size_63) (St.range S70 (i := 1) rfl 0 [(.int .i64 t.start), (.slice a22 t.reads.length c23), (.slice a24 t.writes.length c25)] (sub_range 0 rfl))⟩ rfl
    ·have hm : r ∈ t.reads := by obtain ⟨x, hx, e⟩ := List.any_eq_true.1 hc59; have := of_decide_eq_true e; subst this; exact hx
     obtain ⟨he, hT⟩ := noteE_ok ht hr (show noteX t r = some t by unfold noteX; rw [if_pos hm])
     rw [he, hT]
     exact ⟨_, _, rfl, S70.gr, _, rfl, _, _, _, _, rfl, (hv64.mono le67), hv68⟩
   ·refine wp_seq_k (fun K71 hK71 => region_wl ?_)
    refine do_ rfl (.pointer (some ⟨n2, 1, none⟩)) (ex_field (q := ⟨n2, 1, none⟩) rfl (fa_63_1 _ _)) ?_
    simp only [pS, pN, pA, pC, pZ]
    refine do_ rfl (.slice x0 t.reads.length y0) (ex_load rfl (load1 (nagg_60 _) (St.cell S58 (i := 2) rfl rfl))) ?_
    simp only [pS, pN, pA, pC, pZ]
    refine do_ rfl (.int .i64 ((t.reads.length : Nat) : Int)) (ex_len Tryd.underlying60 rfl) ?_
    simp only [pS, pN, pA, pC, pZ]
    by_cases hc39 : t.reads.length = 20
    ·refine do_ rfl (.bool true) (ex_eql (m := ((t.reads.length : Nat) : Int)) (n := (20 : Int)) (b := true) rfl rfl (beq_iff_eq.2 (by omega))) ?_
     simp only [pS, pN, pA, pC, pZ]
     refine do_ rfl (.bool true) (ex_assign _) ?_
     simp only [pS, pN, pA, pC, pZ]
     refine wl_nil (hK71 _ _ ?_)
     refine wp_cond_true rfl ?_
     refine wp_seq_k (fun K72 hK72 => region_wl ?_)
     refine do_ rfl (.agg #[(.int .i64 0), (.slice none 0 0), (.slice none 0 0)]) (ex_build (ps := #[]) (bmap0) (by kernel_rfl)) ?_
     simp only [pS, pN, pA, pC, pZ]
     refine stStore (i := 1) (v := (.agg #[(.int .i64 0), (.slice none 0 0), (.slice none 0 0)])) S58 rfl rfl rfl rfl (size_63) (allc3 rfl rfl rfl) (Nat.le_of_ble_eq_true rfl) (fun w73 S74 => ?_)
     simp only [pS, pN, pA, pC, pZ]
     have S74 : St w F w73 F42 [⟨n32, [(.int .i64 t.start), (.slice a22 t.reads.length c23), (.slice a24 t.writes.length c25)], 63⟩, ⟨n8, [(.int .i64 0), (.slice none 0 0), (.slice none 0 0)], 63⟩, ⟨n2, [(.int .i64 t.start), (.slice x0 t.reads.length y0), (.slice x1 t.writes.length y1)], 63⟩] [ownP 4 RdC RdC.mono 38 w.heap.size (.slice a22 t.reads.length c23) t.reads, ownP 4 WrC WrC.mono 42 w.heap.size (.slice a24 t.writes.length c25) t.writes] := S74
     refine do_ rfl (.int .i64 11) (ex_assign _) ?_
     simp only [pS, pN, pA, pC, pZ]
     refine wl_nil (hK72 _ _ ?_)
     refine wp_ret ?_
     (try simp only [Exit.then, Exit.inBlock, ↓reduceIte, Nat.reduceEqDiff])
     refine bodyPost_ret (v := (.tuple #[(.agg #[(.int .i64 0), (.slice none 0 0), (.slice none 0 0)]), (.int .i64 11)])) ?_ rfl ?_
     ·exact res_ct rfl ⟨_, rfl, loadN (cs := [(.int .i64 0), (.slice none 0 0), (.slice none 0 0)]) Tryd.underlying63 rfl (size_63) (St.range S74 (i := 1) rfl 0 [(.int .i64 0), (.slice none 0 0), (.slice none 0 0)] (sub_range 0 rfl))⟩ rfl
     ·have hm : r ∉ t.reads := by intro hm; have : t.reads.any (fun q => decide (q = r)) = true := List.any_eq_true.2 ⟨r, hm, decide_eq_true rfl⟩; rw [this] at hc59; simp at hc59
      have he : noteE t r = 11 := by unfold noteE; rw [if_neg (by omega), if_neg (by omega), if_neg hm, if_pos (by omega)]
      have hT : noteT t r = nilX := by unfold noteT; rw [if_pos (by rw [he]; decide)]
      rw [he, hT]
      exact ⟨_, _, rfl, S74.gr, _, rfl, _, _, _, _, rfl, (Sl.nil _ _ _), (Sl.nil _ _ _)⟩
    ·refine do_ rfl (.bool false) (ex_eql (m := ((t.reads.length : Nat) : Int)) (n := (20 : Int)) (b := false) rfl rfl (beq_eq_false_iff_ne.2 (by omega))) ?_
     simp only [pS, pN, pA, pC, pZ]
     refine do_ rfl (.bool false) (ex_assign _) ?_
     simp only [pS, pN, pA, pC, pZ]
     refine wl_nil (hK71 _ _ ?_)
     refine wp_cond_false rfl ?_
     refine region_gw F42 5 [(3, .made (fun F' u => RdV F' u r)), (4, .made (fun F' u => Rds F' u [r]))] (by kernel_rfl) (by kernel_rfl) ?_
     simp only [List.take_succ_cons, List.take_zero]
     refine gw_pure rfl rfl (.pointer (some ⟨n32, 1, none⟩)) (fun w75 hCw75 => pureAt_of (ex_field (q := ⟨n32, 1, none⟩) rfl (fa_63_1 _ _))) ?_
     simp only [pS, pN, pA, pC, pZ]
     refine gw_pure rfl rfl (.slice a22 t.reads.length c23) (fun w75 hCw75 => pureAt_of (ex_load rfl (load1 (nagg_60 _) (St.cell (St.tells S58 hCw75) (i := 0) rfl rfl)))) ?_
     simp only [pS, pN, pA, pC, pZ]
     refine gw_pure rfl rfl (.agg #[(.slice z0 r.name.length z1), (.slice z2 r.key.length z3), (.bool r.wide), (.slice z4 r.last.length z5)]) (fun w75 hCw75 => pureAt_of (ex_load rfl (loadN (cs := [(.slice z0 r.name.length z1), (.slice z2 r.key.length z3), (.bool r.wide), (.slice z4 r.last.length z5)]) Tryd.underlying38 rfl (size_38) (range4 (St.fz (St.tells S58 hCw75) (hc41 0 _ rfl)) (St.fz (St.tells S58 hCw75) (hc41 1 _ rfl)) (St.fz (St.tells S58 hCw75) (hc41 2 _ rfl)) (St.fz (St.tells S58 hCw75) (hc41 3 _ rfl)))))) ?_
     simp only [pS, pN, pA, pC, pZ]
     refine gw_rel rfl rfl (fun w75 hCw75 hF => does_call (ex_fn (vs := #[(.agg #[(.slice z0 r.name.length z1), (.slice z2 r.key.length z3), (.bool r.wide), (.slice z4 r.last.length z5)])]) (map1 rfl) rfl (ent_36 _ _)) (call_made S58.sat hCw75 (read_spec _ _ _ r ((St.tells S58 hCw75)).sat ⟨_, _, _, _, _, _, rfl, (k0.mono (le29.trans le40)), (k1.mono (le29.trans le40)), (k3.mono (le29.trans le40))⟩ hb0 hb1 hb2))) (fun v76 => ?_)
     simp only [pS, pN, pA, pC, pZ]
     refine gw_rel rfl rfl (fun w75 hCw75 hF_ => ?_) (fun v89 => ?_)
     ·obtain ⟨F86, g87, R88⟩ := hF_.get 3 (by kernel_rfl) rfl rfl
      obtain ⟨xa77, xc78, xa80, xc81, xa83, xc84, rfl, r79, r82, r85⟩ := R88
      exact does_lit (k := 4) (R := RdC) (hR := RdC.mono) (p := r) (cs := [.slice xa77 _ xc78, .slice xa80 _ xc81, _, .slice xa83 _ xc84]) (E := 38) g87 ⟨_, _, _, _, rfl, r79, r82, rfl, r85⟩ rfl (ex_lit (E := 38) (cells := #[.slice xa77 _ xc78, .slice xa80 _ xc81, _, .slice xa83 _ xc84]) (bmap1 rfl) (fun w => by kernel_rfl))
     simp only [pS, pN, pA, pC, pZ]
     refine gw_nil ?_
     intro w90 hC92 hF93
     obtain ⟨F94, g95, R96⟩ := hF93.get 4 rfl rfl
     have S91 := St.gives S58 g95
     have le98 : Le _ _ := g95.le S58.sat
     have R99 := R96
     generalize F94 = F97 at *
     obtain ⟨xa100, xc101, rfl, _⟩ := Sl.shape R99
     clear hF93
     simp only [List.drop_succ_cons, List.drop_zero]
     refine stAppendS (r := 0) (u := (.slice xa100 [r].length xc101)) S91 rfl i38 (.agg #[(.slice none 0 0), (.slice none 0 0), (.bool false), (.slice none 0 0)]) 80 Tryd.underlying60 hi38 hz38 hs38 hb38 rfl (by decide) rfl rfl rfl (Sl.toW R99 (S91).sat) (fun F cs p h => RdC.oneCell h) (Nat.le_refl _) S91.gr.below.size (by unfold maxLen; simp only [List.length_cons, List.length_nil]; omega) (by simp only [List.length_cons, List.length_nil]; omega) ?_
     intro v102 w103 S104 hn105
     simp only [pS, pN, pA, pC, pZ]
     have S104 : St w F w103 F97 [⟨n32, [(.int .i64 t.start), (.slice a22 t.reads.length c23), (.slice a24 t.writes.length c25)], 63⟩, ⟨n8, [(.int .i64 0), (.slice none 0 0), (.slice none 0 0)], 63⟩, ⟨n2, [(.int .i64 t.start), (.slice x0 t.reads.length y0), (.slice x1 t.writes.length y1)], 63⟩] [ownP 4 RdC RdC.mono 38 w.heap.size v102 (t.reads ++ [r]), ownP 4 WrC WrC.mono 42 w.heap.size (.slice a24 t.writes.length c25) t.writes] := S104
     have hpe : (⟨r.name, r.key, r.wide, r.last⟩ : Rd) = r := rfl
     obtain ⟨a106, cap107, rfl, h108, h109⟩ := (S104.own (i := 0) rfl).shape
     unfold maxLen at h109
     refine do_ rfl (.pointer (some ⟨n32, 1, none⟩)) (ex_field (q := ⟨n32, 1, none⟩) rfl (fa_63_1 _ _)) ?_
     simp only [pS, pN, pA, pC, pZ]
     refine stStore (i := 0) (v := (.slice a106 (t.reads ++ [r]).length cap107)) S104 rfl rfl rfl rfl (size_60) (allc1 rfl) (Nat.le_of_ble_eq_true rfl) (fun w110 S111 => ?_)
     simp only [pS, pN, pA, pC, pZ]
     have S111 : St w F w110 F97 [⟨n32, [(.int .i64 t.start), (.slice a106 (t.reads ++ [r]).length cap107), (.slice a24 t.writes.length c25)], 63⟩, ⟨n8, [(.int .i64 0), (.slice none 0 0), (.slice none 0 0)], 63⟩, ⟨n2, [(.int .i64 t.start), (.slice x0 t.reads.length y0), (.slice x1 t.writes.length y1)], 63⟩] [ownP 4 RdC RdC.mono 38 w.heap.size (.slice a106 (t.reads ++ [r]).length cap107) (t.reads ++ [r]), ownP 4 WrC WrC.mono 42 w.heap.size (.slice a24 t.writes.length c25) t.writes] := S111
     refine wl_nil (hK37 _ _ ?_)
     refine wp_seq_k (fun K112 hK112 => ?_)
     obtain ⟨F113, S114, le115, hv116⟩ := St.freeze S111 (i := 0) rfl (Nat.le_refl _)
     have S114 : St w F w110 F113 [⟨n32, [(.int .i64 t.start), (.slice a106 (t.reads ++ [r]).length cap107), (.slice a24 t.writes.length c25)], 63⟩, ⟨n8, [(.int .i64 0), (.slice none 0 0), (.slice none 0 0)], 63⟩, ⟨n2, [(.int .i64 t.start), (.slice x0 t.reads.length y0), (.slice x1 t.writes.length y1)], 63⟩] [ownP 4 WrC WrC.mono 42 w.heap.size (.slice a24 t.writes.length c25) t.writes] := S114
     have hv116 : Rds _ (.slice a106 (t.reads ++ [r]).length cap107) (t.reads ++ [r]) := hv116
     obtain ⟨F117, S118, le119, hv120⟩ := St.freeze S114 (i := 0) rfl (Nat.le_refl _)
     have S118 : St w F w110 F117 [⟨n32, [(.int .i64 t.start), (.slice a106 (t.reads ++ [r]).length cap107), (.slice a24 t.writes.length c25)], 63⟩, ⟨n8, [(.int .i64 0), (.slice none 0 0), (.slice none 0 0)], 63⟩, ⟨n2, [(.int .i64 t.start), (.slice x0 t.reads.length y0), (.slice x1 t.writes.length y1)], 63⟩] [] := S118
     have hv120 : Wrs _ (.slice a24 t.writes.length c25) t.writes := hv120
     refine region_wl ?_
     refine do_ rfl (.agg #[(.int .i64 t.start), (.slice a106 (t.reads ++ [r]).length cap107), (.slice a24 t.writes.length c25)]) (ex_load rfl (loadN (cs := [(.int .i64 t.start), (.slice a106 (t.reads ++ [r]).length cap107), (.slice a24 t.writes.length c25)]) Tryd.underlying63 rfl (size_63) (St.range S118 (i := 0) rfl 0 [(.int .i64 t.start), (.slice a106 (t.reads ++ [r]).length cap107), (.slice a24 t.writes.length c25)] (sub_range 0 rfl)))) ?_
     simp only [pS, pN, pA, pC, pZ]
     refine stStore (i := 1) (v := (.agg #[(.int .i64 t.start), (.slice a106 (t.reads ++ [r]).length cap107), (.slice a24 t.writes.length c25)])) S118 rfl rfl rfl rfl (size_63) (allc3 rfl rfl rfl) (Nat.le_of_ble_eq_true rfl) (fun w121 S122 => ?_)
     simp only [pS, pN, pA, pC, pZ]
     have S122 : St w F w121 F117 [⟨n32, [(.int .i64 t.start), (.slice a106 (t.reads ++ [r]).length cap107), (.slice a24 t.writes.length c25)], 63⟩, ⟨n8, [(.int .i64 t.start), (.slice a106 (t.reads ++ [r]).length cap107), (.slice a24 t.writes.length c25)], 63⟩, ⟨n2, [(.int .i64 t.start), (.slice x0 t.reads.length y0), (.slice x1 t.writes.length y1)], 63⟩] [] := S122
     refine do_ rfl (.int .i64 0) (ex_assign _) ?_
     simp only [pS, pN, pA, pC, pZ]
     refine wl_nil (hK112 _ _ ?_)
     refine wp_ret ?_
     (try simp only [Exit.then, Exit.inBlock, ↓reduceIte, Nat.reduceEqDiff])
     refine bodyPost_ret (v := (.tuple #[(.agg #[(.int .i64 t.start), (.slice a106 (t.reads ++ [r]).length cap107), (.slice a24 t.writes.length c25)]), (.int .i64 0)])) ?_ rfl ?_
     ·exact res_ct rfl ⟨_, rfl, loadN (cs := [(.int .i64 t.start), (.slice a106 (t.reads ++ [r]).length cap107), (.slice a24 t.writes.length c25)]) Tryd.underlying63 rfl (size_63) (St.range S122 (i := 1) rfl 0 [(.int .i64 t.start), (.slice a106 (t.reads ++ [r]).length cap107), (.slice a24 t.writes.length c25)] (sub_range 0 rfl))⟩ rfl
     ·have hm : r ∉ t.reads := by intro hm; have : t.reads.any (fun q => decide (q = r)) = true := List.any_eq_true.2 ⟨r, hm, decide_eq_true rfl⟩; rw [this] at hc59; simp at hc59
      obtain ⟨he, hT⟩ := noteE_ok ht hr (show noteX t r = some ⟨t.start, t.reads ++ [r], t.writes⟩ by unfold noteX; rw [if_neg hm, if_neg (by omega)])
      rw [he, hT]
      exact ⟨_, _, rfl, S122.gr, _, rfl, _, _, _, _, rfl, (hv116.mono le119), hv120⟩
  ·refine do_ rfl (.bool true) (ex_neq (m := (rdE r)) (n := (0 : Int)) (b := true) rfl rfl (bne_iff_ne.2 (by omega))) ?_
   simp only [pS, pN, pA, pC, pZ]
   refine wl_nil (hK20 _ _ ?_)
   refine wp_cond_true rfl ?_
   refine wp_seq_k (fun K123 hK123 => region_wl ?_)
   refine do_ rfl (.agg #[(.int .i64 0), (.slice none 0 0), (.slice none 0 0)]) (ex_build (ps := #[]) (bmap0) (by kernel_rfl)) ?_
   simp only [pS, pN, pA, pC, pZ]
   refine do_ rfl (.int .i64 (rdE r)) (ex_move _) ?_
   simp only [pS, pN, pA, pC, pZ]
   refine stStore (i := 0) (v := (.agg #[(.int .i64 0), (.slice none 0 0), (.slice none 0 0)])) S19 rfl rfl rfl rfl (size_63) (allc3 rfl rfl rfl) (Nat.le_of_ble_eq_true rfl) (fun w124 S125 => ?_)
   simp only [pS, pN, pA, pC, pZ]
   have S125 : St w F w124 F [⟨n8, [(.int .i64 0), (.slice none 0 0), (.slice none 0 0)], 63⟩, ⟨n5, [(.slice z0 r.name.length z1), (.slice z2 r.key.length z3), (.bool r.wide), (.slice z4 r.last.length z5)], 38⟩, ⟨n2, [(.int .i64 t.start), (.slice x0 t.reads.length y0), (.slice x1 t.writes.length y1)], 63⟩] [] := S125
   refine do_ rfl (.int .i64 (rdE r)) (ex_assign _) ?_
   simp only [pS, pN, pA, pC, pZ]
   refine wl_nil (hK123 _ _ ?_)
   refine wp_ret ?_
   (try simp only [Exit.then, Exit.inBlock, ↓reduceIte, Nat.reduceEqDiff])
   refine bodyPost_ret (v := (.tuple #[(.agg #[(.int .i64 0), (.slice none 0 0), (.slice none 0 0)]), (.int .i64 (rdE r))])) ?_ rfl ?_
   ·exact res_ct rfl ⟨_, rfl, loadN (cs := [(.int .i64 0), (.slice none 0 0), (.slice none 0 0)]) Tryd.underlying63 rfl (size_63) (St.range S125 (i := 0) rfl 0 [(.int .i64 0), (.slice none 0 0), (.slice none 0 0)] (sub_range 0 rfl))⟩ rfl
   ·have he : noteE t r = rdE r := by unfold noteE; rw [if_neg (by omega), if_pos hc18]
    have hT : noteT t r = nilX := by unfold noteT; rw [if_pos (by rw [he]; exact hc18)]
    rw [he, hT]
    exact ⟨_, _, rfl, S125.gr, _, rfl, _, _, _, _, rfl, (Sl.nil _ _ _), (Sl.nil _ _ _)⟩
 ·refine do_ rfl (.bool true) (ex_neq (m := (txE t)) (n := (0 : Int)) (b := true) rfl rfl (bne_iff_ne.2 (by omega))) ?_
  simp only [pS, pN, pA, pC, pZ]
  refine wl_nil (hK15 _ _ ?_)
  refine wp_cond_true rfl ?_
  refine wp_seq_k (fun K126 hK126 => region_wl ?_)
  refine do_ rfl (.agg #[(.int .i64 0), (.slice none 0 0), (.slice none 0 0)]) (ex_build (ps := #[]) (bmap0) (by kernel_rfl)) ?_
  simp only [pS, pN, pA, pC, pZ]
  refine do_ rfl (.int .i64 (txE t)) (ex_move _) ?_
  simp only [pS, pN, pA, pC, pZ]
  refine stStore (i := 0) (v := (.agg #[(.int .i64 0), (.slice none 0 0), (.slice none 0 0)])) S14 rfl rfl rfl rfl (size_63) (allc3 rfl rfl rfl) (Nat.le_of_ble_eq_true rfl) (fun w127 S128 => ?_)
  simp only [pS, pN, pA, pC, pZ]
  have S128 : St w F w127 F [⟨n8, [(.int .i64 0), (.slice none 0 0), (.slice none 0 0)], 63⟩, ⟨n5, [(.slice z0 r.name.length z1), (.slice z2 r.key.length z3), (.bool r.wide), (.slice z4 r.last.length z5)], 38⟩, ⟨n2, [(.int .i64 t.start), (.slice x0 t.reads.length y0), (.slice x1 t.writes.length y1)], 63⟩] [] := S128
  refine do_ rfl (.int .i64 (txE t)) (ex_assign _) ?_
  simp only [pS, pN, pA, pC, pZ]
  refine wl_nil (hK126 _ _ ?_)
  refine wp_ret ?_
  (try simp only [Exit.then, Exit.inBlock, ↓reduceIte, Nat.reduceEqDiff])
  refine bodyPost_ret (v := (.tuple #[(.agg #[(.int .i64 0), (.slice none 0 0), (.slice none 0 0)]), (.int .i64 (txE t))])) ?_ rfl ?_
  ·exact res_ct rfl ⟨_, rfl, loadN (cs := [(.int .i64 0), (.slice none 0 0), (.slice none 0 0)]) Tryd.underlying63 rfl (size_63) (St.range S128 (i := 0) rfl 0 [(.int .i64 0), (.slice none 0 0), (.slice none 0 0)] (sub_range 0 rfl))⟩ rfl
  ·have he : noteE t r = txE t := by unfold noteE; rw [if_pos hc12]
   have hT : noteT t r = nilX := by unfold noteT; rw [if_pos (by rw [he]; exact hc12)]
   rw [he, hT]
   exact ⟨_, _, rfl, S128.gr, _, rfl, _, _, _, _, rfl, (Sl.nil _ _ _), (Sl.nil _ _ _)⟩
set_option maxHeartbeats 8000000 in
theorem txnWriteT_spec (F : Fz) (w : World) (v u : Value) (t : Tx) (r : Wr) (hs : Sat w F) (hv : TxV F v t) (hu : WrV F u r) (hbw : ∀ r ∈ t.writes, r.name.length ≤ 100000 ∧ r.key.length ≤ 100000 ∧ r.value.length ≤ 100000) (hbr : r.name.length ≤ 100000 ∧ r.key.length ≤ 100000 ∧ r.value.length ≤ 100000) :
    Calls Tryd.prog 26 #[v, u] w (Gives w F fun F' u => TxE F' u (writeT t r) (writeE t r)) := by
 obtain ⟨x0, y0, x1, y1, rfl, h0, h1⟩ := hv
 obtain ⟨_, _, e0, q0, q1⟩ := Sl.shape h0
 obtain ⟨_, _, e1, q2, q3⟩ := Sl.shape h1
 injection e0 with _ _ e0
 injection e1 with _ _ e1
 subst e0 e1
 unfold maxLen at q1 q3
 obtain ⟨z0, z1, z2, z3, z4, z5, rfl, k0, k1, k3⟩ := hu
 obtain ⟨i42, hi42, hz42, hs42, hb42⟩ := info_parts info_42
 have S := St.start hs
 go_enter Tryd.func26, Tryd.ntmps26
 refine wp_seq_k (fun K1 hK1 => region_wl ?_)
 refine stNew S (v := fun n => .pointer (some ⟨n, 0, none⟩)) rfl (ex_box (v := (.agg #[(.int .i64 t.start), (.slice x0 t.reads.length y0), (.slice x1 t.writes.length y1)])) rfl) (fun n2 w3 S4 => ?_)
 simp only [pS, pN, pA, pC, pZ]
 have S4 : St w F w3 F [⟨n2, [(.int .i64 t.start), (.slice x0 t.reads.length y0), (.slice x1 t.writes.length y1)], 63⟩] [] := S4
 refine stNew S4 (v := fun n => .pointer (some ⟨n, 0, none⟩)) rfl (ex_box (v := (.agg #[(.slice z0 r.name.length z1), (.slice z2 r.key.length z3), (.bool r.gone), (.slice z4 r.value.length z5)])) rfl) (fun n5 w6 S7 => ?_)
 simp only [pS, pN, pA, pC, pZ]
 have S7 : St w F w6 F [⟨n5, [(.slice z0 r.name.length z1), (.slice z2 r.key.length z3), (.bool r.gone), (.slice z4 r.value.length z5)], 42⟩, ⟨n2, [(.int .i64 t.start), (.slice x0 t.reads.length y0), (.slice x1 t.writes.length y1)], 63⟩] [] := S7
 refine stNew S7 (v := fun n => .pointer (some ⟨n, 0, none⟩)) rfl (ex_alloc (zero_63 _)) (fun n8 w9 S10 => ?_)
 simp only [pS, pN, pA, pC, pZ]
 have S10 : St w F w9 F [⟨n8, [(.int .i64 0), (.slice none 0 0), (.slice none 0 0)], 63⟩, ⟨n5, [(.slice z0 r.name.length z1), (.slice z2 r.key.length z3), (.bool r.gone), (.slice z4 r.value.length z5)], 42⟩, ⟨n2, [(.int .i64 t.start), (.slice x0 t.reads.length y0), (.slice x1 t.writes.length y1)], 63⟩] [] := S10
 refine do_ rfl (.int .i64 0) (ex_assign _) ?_
 simp only [pS, pN, pA, pC, pZ]
 refine wl_nil (hK1 _ _ ?_)
 refine wp_seq_k (fun K11 hK11 => ?_)
 refine wp_seq_k (fun K12 hK12 => region_wl ?_)
 refine do_ rfl (.agg #[(.int .i64 t.start), (.slice x0 t.reads.length y0), (.slice x1 t.writes.length y1)]) (ex_load rfl (loadN (cs := [(.int .i64 t.start), (.slice x0 t.reads.length y0), (.slice x1 t.writes.length y1)]) Tryd.underlying63 rfl (size_63) (St.range S10 (i := 2) rfl 0 [(.int .i64 t.start), (.slice x0 t.reads.length y0), (.slice x1 t.writes.length y1)] (sub_range 0 rfl)))) ?_
 simp only [pS, pN, pA, pC, pZ]
 refine stTells (v := (.int .i64 (txE t))) S10 rfl (ex_fn (vs := #[(.agg #[(.int .i64 t.start), (.slice x0 t.reads.length y0), (.slice x1 t.writes.length y1)])]) (map1 rfl) rfl (ent_30 _ _)) (txnCheck_spec _ _ _ t (S10).sat ⟨_, _, _, _, rfl, h0, h1⟩ hbw) (fun w13 S14 => ?_)
 simp only [pS, pN, pA, pC, pZ]
 refine do_ rfl (.int .i64 (txE t)) (ex_assign _) ?_
 simp only [pS, pN, pA, pC, pZ]
 refine wl_nil (hK12 _ _ ?_)
 refine wp_seq_k (fun K15 hK15 => region_wl ?_)
 refine do_ rfl (.int .i64 (txE t)) (ex_move _) ?_
 simp only [pS, pN, pA, pC, pZ]
 by_cases hc13 : (txE t) = (0 : Int)
 ·refine do_ rfl (.bool false) (ex_neq (m := (txE t)) (n := (0 : Int)) (b := false) rfl rfl (bne_eq_false_iff_eq.2 (by omega))) ?_
  simp only [pS, pN, pA, pC, pZ]
  refine wl_nil (hK15 _ _ ?_)
  refine wp_cond_false rfl ?_
  refine wp_skip ?_
  refine hK11 _ _ ?_
  refine wp_seq_k (fun K16 hK16 => ?_)
  refine wp_seq_k (fun K17 hK17 => ?_)
  have ht : TxOk t := txE_ok.1 (by omega)
  have hnr := ht.nr
  have hnw := ht.nw
  refine region_wl ?_
  refine do_ rfl (.agg #[(.slice z0 r.name.length z1), (.slice z2 r.key.length z3), (.bool r.gone), (.slice z4 r.value.length z5)]) (ex_load rfl (loadN (cs := [(.slice z0 r.name.length z1), (.slice z2 r.key.length z3), (.bool r.gone), (.slice z4 r.value.length z5)]) Tryd.underlying42 rfl (size_42) (St.range S14 (i := 1) rfl 0 [(.slice z0 r.name.length z1), (.slice z2 r.key.length z3), (.bool r.gone), (.slice z4 r.value.length z5)] (sub_range 0 rfl)))) ?_
  simp only [pS, pN, pA, pC, pZ]
  refine stTells (v := (.int .i64 (wrE r))) S14 rfl (ex_fn (vs := #[(.agg #[(.slice z0 r.name.length z1), (.slice z2 r.key.length z3), (.bool r.gone), (.slice z4 r.value.length z5)])]) (map1 rfl) rfl (ent_37 _ _)) (txnWrite_spec _ _ _ r (S14).sat ⟨_, _, _, _, _, _, rfl, k0, k1, k3⟩ hbr) (fun w18 S19 => ?_)
  simp only [pS, pN, pA, pC, pZ]
  refine do_ rfl (.int .i64 (wrE r)) (ex_assign _) ?_
  simp only [pS, pN, pA, pC, pZ]
  refine wl_nil (hK17 _ _ ?_)
  refine wp_seq_k (fun K20 hK20 => region_wl ?_)
  refine do_ rfl (.int .i64 (wrE r)) (ex_move _) ?_
  simp only [pS, pN, pA, pC, pZ]
  by_cases hc19 : (wrE r) = (0 : Int)
  ·refine do_ rfl (.bool false) (ex_neq (m := (wrE r)) (n := (0 : Int)) (b := false) rfl rfl (bne_eq_false_iff_eq.2 (by omega))) ?_
   simp only [pS, pN, pA, pC, pZ]
   refine wl_nil (hK20 _ _ ?_)
   refine wp_cond_false rfl ?_
   refine wp_skip ?_
   refine hK16 _ _ ?_
   refine wp_seq_k (fun K21 hK21 => ?_)
   have hr : WrOk r := wrE_ok.1 (by omega)
   refine region_wl ?_
   refine do_ rfl (.agg #[(.int .i64 t.start), (.slice x0 t.reads.length y0), (.slice x1 t.writes.length y1)]) (ex_load rfl (loadN (cs := [(.int .i64 t.start), (.slice x0 t.reads.length y0), (.slice x1 t.writes.length y1)]) Tryd.underlying63 rfl (size_63) (St.range S19 (i := 2) rfl 0 [(.int .i64 t.start), (.slice x0 t.reads.length y0), (.slice x1 t.writes.length y1)] (sub_range 0 rfl)))) ?_
   simp only [pS, pN, pA, pC, pZ]
   refine stGivesTx S19 rfl (ex_fn (vs := #[(.agg #[(.int .i64 t.start), (.slice x0 t.reads.length y0), (.slice x1 t.writes.length y1)])]) (map1 rfl) rfl (ent_32 _ _)) (txnOwn_spec _ _ _ t (S19).sat ⟨_, _, _, _, rfl, h0, h1⟩ ht) (by decide) ?_
   intro a22 c23 a24 c25 w26 F27 S28 le29 hc30 hc31
   unfold maxLen at hc30 hc31
   simp only [pS, pN, pA, pC, pZ]
   have S28 : St w F w26 F27 [⟨n8, [(.int .i64 0), (.slice none 0 0), (.slice none 0 0)], 63⟩, ⟨n5, [(.slice z0 r.name.length z1), (.slice z2 r.key.length z3), (.bool r.gone), (.slice z4 r.value.length z5)], 42⟩, ⟨n2, [(.int .i64 t.start), (.slice x0 t.reads.length y0), (.slice x1 t.writes.length y1)], 63⟩] [ownP 4 RdC RdC.mono 38 w.heap.size (.slice a22 t.reads.length c23) t.reads, ownP 4 WrC WrC.mono 42 w.heap.size (.slice a24 t.writes.length c25) t.writes] := S28
   refine stNew S28 (v := fun n => .pointer (some ⟨n, 0, none⟩)) rfl (ex_alloc (zero_63 _)) (fun n32 w33 S34 => ?_)
   simp only [pS, pN, pA, pC, pZ]
   have S34 : St w F w33 F27 [⟨n32, [(.int .i64 0), (.slice none 0 0), (.slice none 0 0)], 63⟩, ⟨n8, [(.int .i64 0), (.slice none 0 0), (.slice none 0 0)], 63⟩, ⟨n5, [(.slice z0 r.name.length z1), (.slice z2 r.key.length z3), (.bool r.gone), (.slice z4 r.value.length z5)], 42⟩, ⟨n2, [(.int .i64 t.start), (.slice x0 t.reads.length y0), (.slice x1 t.writes.length y1)], 63⟩] [ownP 4 RdC RdC.mono 38 w.heap.size (.slice a22 t.reads.length c23) t.reads, ownP 4 WrC WrC.mono 42 w.heap.size (.slice a24 t.writes.length c25) t.writes] := S34
   refine stStore (i := 0) (v := (.agg #[(.int .i64 t.start), (.slice a22 t.reads.length c23), (.slice a24 t.writes.length c25)])) S34 rfl rfl rfl rfl (size_63) (allc3 rfl rfl rfl) (Nat.le_of_ble_eq_true rfl) (fun w35 S36 => ?_)
   simp only [pS, pN, pA, pC, pZ]
   have S36 : St w F w35 F27 [⟨n32, [(.int .i64 t.start), (.slice a22 t.reads.length c23), (.slice a24 t.writes.length c25)], 63⟩, ⟨n8, [(.int .i64 0), (.slice none 0 0), (.slice none 0 0)], 63⟩, ⟨n5, [(.slice z0 r.name.length z1), (.slice z2 r.key.length z3), (.bool r.gone), (.slice z4 r.value.length z5)], 42⟩, ⟨n2, [(.int .i64 t.start), (.slice x0 t.reads.length y0), (.slice x1 t.writes.length y1)], 63⟩] [ownP 4 RdC RdC.mono 38 w.heap.size (.slice a22 t.reads.length c23) t.reads, ownP 4 WrC WrC.mono 42 w.heap.size (.slice a24 t.writes.length c25) t.writes] := S36
   refine wl_nil (hK21 _ _ ?_)
   refine wp_seq_k (fun K37 hK37 => region_wl ?_)
   refine do_ rfl (.agg #[(.slice z0 r.name.length z1), (.slice z2 r.key.length z3), (.bool r.gone), (.slice z4 r.value.length z5)]) (ex_load rfl (loadN (cs := [(.slice z0 r.name.length z1), (.slice z2 r.key.length z3), (.bool r.gone), (.slice z4 r.value.length z5)]) Tryd.underlying42 rfl (size_42) (St.range S36 (i := 2) rfl 0 [(.slice z0 r.name.length z1), (.slice z2 r.key.length z3), (.bool r.gone), (.slice z4 r.value.length z5)] (sub_range 0 rfl)))) ?_
   simp only [pS, pN, pA, pC, pZ]
   refine stNew S36 (v := fun n => .slice (some ⟨n, 0, none⟩) 1 1) rfl (ex_lit (ps := #[(0, (.agg #[(.slice z0 r.name.length z1), (.slice z2 r.key.length z3), (.bool r.gone), (.slice z4 r.value.length z5)]))]) (cells := #[(.slice z0 r.name.length z1), (.slice z2 r.key.length z3), (.bool r.gone), (.slice z4 r.value.length z5)]) (E := 42) (bmap1 rfl) (fun w => by kernel_rfl)) (fun n38 w39 S40 => ?_)
   simp only [pS, pN, pA, pC, pZ]
   have S40 : St w F w39 F27 [⟨n38, [(.slice z0 r.name.length z1), (.slice z2 r.key.length z3), (.bool r.gone), (.slice z4 r.value.length z5)], 42⟩, ⟨n32, [(.int .i64 t.start), (.slice a22 t.reads.length c23), (.slice a24 t.writes.length c25)], 63⟩, ⟨n8, [(.int .i64 0), (.slice none 0 0), (.slice none 0 0)], 63⟩, ⟨n5, [(.slice z0 r.name.length z1), (.slice z2 r.key.length z3), (.bool r.gone), (.slice z4 r.value.length z5)], 42⟩, ⟨n2, [(.int .i64 t.start), (.slice x0 t.reads.length y0), (.slice x1 t.writes.length y1)], 63⟩] [ownP 4 RdC RdC.mono 38 w.heap.size (.slice a22 t.reads.length c23) t.reads, ownP 4 WrC WrC.mono 42 w.heap.size (.slice a24 t.writes.length c25) t.writes] := S40
   obtain ⟨S41, le42, hc43⟩ := St.freezeBlk S40 (i := 0) rfl
   have r45 : Wrs _ (.slice (some ⟨n38, 0, none⟩) 1 1) [r] := sl_of_block (R := WrC) (l := [r]) (el := [[(.slice z0 r.name.length z1), (.slice z2 r.key.length z3), (.bool r.gone), (.slice z4 r.value.length z5)]]) hc43 rfl ⟨⟨_, _, _, _, rfl, ((k0.mono le29).mono le42), ((k1.mono le29).mono le42), rfl, ((k3.mono le29).mono le42)⟩, trivial⟩ (by simp) (by unfold maxLen; simp)
   generalize addF F27 w39 n38 = F44 at *
   have S41 : St w F w39 F44 [⟨n32, [(.int .i64 t.start), (.slice a22 t.reads.length c23), (.slice a24 t.writes.length c25)], 63⟩, ⟨n8, [(.int .i64 0), (.slice none 0 0), (.slice none 0 0)], 63⟩, ⟨n5, [(.slice z0 r.name.length z1), (.slice z2 r.key.length z3), (.bool r.gone), (.slice z4 r.value.length z5)], 42⟩, ⟨n2, [(.int .i64 t.start), (.slice x0 t.reads.length y0), (.slice x1 t.writes.length y1)], 63⟩] [ownP 4 RdC RdC.mono 38 w.heap.size (.slice a22 t.reads.length c23) t.reads, ownP 4 WrC WrC.mono 42 w.heap.size (.slice a24 t.writes.length c25) t.writes] := S41
   refine stGives S41 rfl (ex_fn (vs := #[(.slice (some ⟨n38, 0, none⟩) 1 1)]) (map1 rfl) rfl (ent_38 _ _)) (txnWrites_spec _ _ _ [r] (S41).sat r45 (by simp) (by intro x hx; rw [List.mem_singleton.1 hx]; exact hbr)) ?_
   intro v51 w46 F48 S47 le49 R50
   obtain ⟨a52, c53, rfl, h54, h55⟩ := Sl.shape R50
   simp only [pS, pN, pA, pC, pZ]
   obtain ⟨b56, o57, ha58, xa60, xc61, xa64, xc65, xa69, xc70, c59, c63, c67, c68, r62, r66, r71⟩ := Wrs.get R50 (show [r][0]? = some r from rfl)
   refine do_ rfl (.pointer (some ⟨b56, o57 + 0 * 4, none⟩)) (ex_at (i := 0) (sz := 4) Tryd.underlying61 (sizeof_42 _) rfl ha58 rfl (by simp) rfl) ?_
   simp only [pS, pN, pA, pC, pZ]
   refine do_ rfl (.agg #[(.slice xa60 r.name.length xc61), (.slice xa64 r.key.length xc65), (.bool r.gone), (.slice xa69 r.value.length xc70)]) (ex_load rfl (loadN (cs := [(.slice xa60 r.name.length xc61), (.slice xa64 r.key.length xc65), (.bool r.gone), (.slice xa69 r.value.length xc70)]) Tryd.underlying42 rfl (size_42) (range4 (St.fz S47 c59) (St.fz S47 c63) (St.fz S47 c67) (St.fz S47 c68)))) ?_
   simp only [pS, pN, pA, pC, pZ]
   refine stStore (i := 2) (v := (.agg #[(.slice xa60 r.name.length xc61), (.slice xa64 r.key.length xc65), (.bool r.gone), (.slice xa69 r.value.length xc70)])) S47 rfl rfl rfl rfl (size_42) (allc4 rfl rfl rfl rfl) (Nat.le_of_ble_eq_true rfl) (fun w72 S73 => ?_)
   simp only [pS, pN, pA, pC, pZ]
   have S73 : St w F w72 F48 [⟨n32, [(.int .i64 t.start), (.slice a22 t.reads.length c23), (.slice a24 t.writes.length c25)], 63⟩, ⟨n8, [(.int .i64 0), (.slice none 0 0), (.slice none 0 0)], 63⟩, ⟨n5, [(.slice xa60 r.name.length xc61), (.slice xa64 r.key.length xc65), (.bool r.gone), (.slice xa69 r.value.length xc70)], 42⟩, ⟨n2, [(.int .i64 t.start), (.slice x0 t.reads.length y0), (.slice x1 t.writes.length y1)], 63⟩] [ownP 4 RdC RdC.mono 38 w.heap.size (.slice a22 t.reads.length c23) t.reads, ownP 4 WrC WrC.mono 42 w.heap.size (.slice a24 t.writes.length c25) t.writes] := S73
   refine wl_nil (hK37 _ _ ?_)
   refine wp_seq_k (fun K74 hK74 => ?_)
   obtain ⟨S75, le76, hc77⟩ := St.freezeBlk S73 (i := 2) rfl
   have r79 : WrP _ n5 r := ⟨_, _, _, _, _, _, hc77 0 _ rfl, hc77 1 _ rfl, hc77 2 _ rfl, hc77 3 _ rfl, (r62.mono le76), (r66.mono le76), (r71.mono le76)⟩
   generalize addF F48 w72 n5 = F78 at *
   have S75 : St w F w72 F78 [⟨n32, [(.int .i64 t.start), (.slice a22 t.reads.length c23), (.slice a24 t.writes.length c25)], 63⟩, ⟨n8, [(.int .i64 0), (.slice none 0 0), (.slice none 0 0)], 63⟩, ⟨n2, [(.int .i64 t.start), (.slice x0 t.reads.length y0), (.slice x1 t.writes.length y1)], 63⟩] [ownP 4 RdC RdC.mono 38 w.heap.size (.slice a22 t.reads.length c23) t.reads, ownP 4 WrC WrC.mono 42 w.heap.size (.slice a24 t.writes.length c25) t.writes] := S75
   refine region_wl ?_
   refine do_ rfl (.pointer (some ⟨n32, 2, none⟩)) (ex_field (q := ⟨n32, 2, none⟩) rfl (fa_63_2 _ _)) ?_
   simp only [pS, pN, pA, pC, pZ]
   refine do_ rfl (.slice a24 t.writes.length c25) (ex_load rfl (load1 (nagg_61 _) (St.cell S75 (i := 0) rfl rfl))) ?_
   simp only [pS, pN, pA, pC, pZ]
   refine do_ rfl (.func (.func 40) #[] #[(.pointer (some ⟨n5, 0, none⟩))]) (ex_makeFunc rfl) ?_
   simp only [pS, pN, pA, pC, pZ]
   obtain ⟨F93, hs94, le95, hsl96⟩ := own_peek S75 (i := 1) rfl
   refine stTells (v := (.int .i64 (idxE t.writes (fun q => samePl q r)))) S75 rfl (ex_fn (vs := #[(.slice a24 t.writes.length c25), (.func (.func 40) #[] #[(.pointer (some ⟨n5, 0, none⟩))])]) (map2 rfl rfl) rfl (ent_39 _ _)) (write1_index _ _ _ n5 t.writes r hs94 hsl96 (r79.mono le95) (by omega)) (fun w97 S98 => ?_)
   simp only [pS, pN, pA, pC, pZ]
   refine do_ rfl (.int .i64 (idxE t.writes (fun q => samePl q r))) (ex_assign _) ?_
   simp only [pS, pN, pA, pC, pZ]
   refine wl_nil (hK74 _ _ ?_)
   refine wp_seq_k (fun K99 hK99 => ?_)
   refine wp_block ?_
   refine wp_seq_k (fun K100 hK100 => region_wl ?_)
   refine do_ rfl (.int .i64 (idxE t.writes (fun q => samePl q r))) (ex_move _) ?_
   simp only [pS, pN, pA, pC, pZ]
   by_cases hc41 : (0 : Int) ≤ (idxE t.writes (fun q => samePl q r))
   ·refine do_ rfl (.bool true) (ex_geq (m := (idxE t.writes (fun q => samePl q r))) (n := (0 : Int)) (b := true) rfl rfl (decide_eq_true (by omega))) ?_
    simp only [pS, pN, pA, pC, pZ]
    refine do_ rfl (.bool true) (ex_assign _) ?_
    simp only [pS, pN, pA, pC, pZ]
    refine wl_nil (hK100 _ _ ?_)
    refine wp_cond_true rfl ?_
    obtain ⟨i, hi, hil, hif⟩ := idxE_some hc41
    rw [hi]
    obtain ⟨g101, rfl⟩ := Own.addr0 (S98.own (i := 1) rfl) (by omega)
    refine region_wl ?_
    refine do_ rfl (.pointer (some ⟨n32, 2, none⟩)) (ex_field (q := ⟨n32, 2, none⟩) rfl (fa_63_2 _ _)) ?_
    simp only [pS, pN, pA, pC, pZ]
    refine do_ rfl (.slice (some ⟨g101, 0, none⟩) t.writes.length c25) (ex_load rfl (load1 (nagg_61 _) (St.cell S98 (i := 0) rfl rfl))) ?_
    simp only [pS, pN, pA, pC, pZ]
    refine do_ rfl (.int .i64 ((i : Nat) : Int)) (ex_move _) ?_
    simp only [pS, pN, pA, pC, pZ]
    refine do_ rfl (.agg #[(.slice xa60 r.name.length xc61), (.slice xa64 r.key.length xc65), (.bool r.gone), (.slice xa69 r.value.length xc70)]) (ex_load rfl (loadN (cs := [(.slice xa60 r.name.length xc61), (.slice xa64 r.key.length xc65), (.bool r.gone), (.slice xa69 r.value.length xc70)]) Tryd.underlying42 rfl (size_42) (range4 (St.fz S98 (hc77 0 _ rfl)) (St.fz S98 (hc77 1 _ rfl)) (St.fz S98 (hc77 2 _ rfl)) (St.fz S98 (hc77 3 _ rfl))))) ?_
    simp only [pS, pN, pA, pC, pZ]
    refine do_ rfl (.pointer (some ⟨g101, 0 + i * 4, none⟩)) (ex_at (i := i) (sz := 4) Tryd.underlying61 (sizeof_42 _) rfl rfl rfl (by omega) rfl) ?_
    simp only [pS, pN, pA, pC, pZ]
    refine stSetRow (r := 1) (i := i) (p := r) (u := (.agg #[(.slice xa60 r.name.length xc61), (.slice xa64 r.key.length xc65), (.bool r.gone), (.slice xa69 r.value.length xc70)])) S98 rfl rfl (by omega) rfl rfl (by omega) (size_42) (allc4 rfl rfl rfl rfl) rfl ⟨_, _, _, _, rfl, (r62.mono le76), (r66.mono le76), rfl, (r71.mono le76)⟩ (Nat.le_refl _) (fun w102 S103 => ?_)
    simp only [pS, pN, pA, pC, pZ]
    have S103 : St w F w102 F78 [⟨n32, [(.int .i64 t.start), (.slice a22 t.reads.length c23), (.slice (some ⟨g101, 0, none⟩) t.writes.length c25)], 63⟩, ⟨n8, [(.int .i64 0), (.slice none 0 0), (.slice none 0 0)], 63⟩, ⟨n2, [(.int .i64 t.start), (.slice x0 t.reads.length y0), (.slice x1 t.writes.length y1)], 63⟩] [ownP 4 RdC RdC.mono 38 w.heap.size (.slice a22 t.reads.length c23) t.reads, ownP 4 WrC WrC.mono 42 w.heap.size (.slice (some ⟨g101, 0, none⟩) t.writes.length c25) (t.writes.set i r)] := S103
    refine wl_nil (hK99 _ _ ?_)
    refine wp_seq_k (fun K104 hK104 => ?_)
    obtain ⟨F105, S106, le107, hv108⟩ := St.freeze S103 (i := 0) rfl (Nat.le_refl _)
    have S106 : St w F w102 F105 [⟨n32, [(.int .i64 t.start), (.slice a22 t.reads.length c23), (.slice (some ⟨g101, 0, none⟩) t.writes.length c25)], 63⟩, ⟨n8, [(.int .i64 0), (.slice none 0 0), (.slice none 0 0)], 63⟩, ⟨n2, [(.int .i64 t.start), (.slice x0 t.reads.length y0), (.slice x1 t.writes.length y1)], 63⟩] [ownP 4 WrC WrC.mono 42 w.heap.size (.slice (some ⟨g101, 0, none⟩) t.writes.length c25) (t.writes.set i r)] := S106
    have hv108 : Rds _ (.slice a22 t.reads.length c23) t.reads := hv108
    obtain ⟨F109, S110, le111, hv112⟩ := St.freeze S106 (i := 0) rfl (Nat.le_refl _)
    have S110 : St w F w102 F109 [⟨n32, [(.int .i64 t.start), (.slice a22 t.reads.length c23), (.slice (some ⟨g101, 0, none⟩) t.writes.length c25)], 63⟩, ⟨n8, [(.int .i64 0), (.slice none 0 0), (.slice none 0 0)], 63⟩, ⟨n2, [(.int .i64 t.start), (.slice x0 t.reads.length y0), (.slice x1 t.writes.length y1)], 63⟩] [] := S110
    have hv112 : Wrs _ (.slice (some ⟨g101, 0, none⟩) t.writes.length c25) (t.writes.set i r) := hv112
    refine region_wl ?_
    refine do_ rfl (.agg #[(.int .i64 t.start), (.slice a22 t.reads.length c23), (.slice (some ⟨g101, 0, none⟩) t.writes.length c25)]) (ex_load rfl (loadN (cs := [(.int .i64 t.start), (.slice a22 t.reads.length c23), (.slice (some ⟨g101, 0, none⟩) t.writes.length c25)]) Tryd.underlying63 rfl (size_63) (St.range S110 (i := 0) rfl 0 [(.int .i64 t.start), (.slice a22 t.reads.length c23), (.slice (some ⟨g101, 0, none⟩) t.writes.length c25)] (sub_range 0 rfl)))) ?_
    simp only [pS, pN, pA, pC, pZ]
    refine stStore (i := 1) (v := (.agg #[(.int .i64 t.start), (.slice a22 t.reads.length c23), (.slice (some ⟨g101, 0, none⟩) t.writes.length c25)])) S110 rfl rfl rfl rfl (size_63) (allc3 rfl rfl rfl) (Nat.le_of_ble_eq_true rfl) (fun w113 S114 => ?_)
    simp only [pS, pN, pA, pC, pZ]
    have S114 : St w F w113 F109 [⟨n32, [(.int .i64 t.start), (.slice a22 t.reads.length c23), (.slice (some ⟨g101, 0, none⟩) t.writes.length c25)], 63⟩, ⟨n8, [(.int .i64 t.start), (.slice a22 t.reads.length c23), (.slice (some ⟨g101, 0, none⟩) t.writes.length c25)], 63⟩, ⟨n2, [(.int .i64 t.start), (.slice x0 t.reads.length y0), (.slice x1 t.writes.length y1)], 63⟩] [] := S114
    refine do_ rfl (.int .i64 0) (ex_assign _) ?_
    simp only [pS, pN, pA, pC, pZ]
    refine wl_nil (hK104 _ _ ?_)
    refine wp_ret ?_
    (try simp only [Exit.then, Exit.inBlock, ↓reduceIte, Nat.reduceEqDiff])
    refine bodyPost_ret (v := (.tuple #[(.agg #[(.int .i64 t.start), (.slice a22 t.reads.length c23), (.slice (some ⟨g101, 0, none⟩) t.writes.length c25)]), (.int .i64 0)])) ?_ rfl ?_
    ·exact res_ct rfl ⟨_, rfl, loadN (cs := [(.int .i64 t.start), (.slice a22 t.reads.length c23), (.slice (some ⟨g101, 0, none⟩) t.writes.length c25)]) Tryd.underlying63 rfl (size_63) (St.range S114 (i := 1) rfl 0 [(.int .i64 t.start), (.slice a22 t.reads.length c23), (.slice (some ⟨g101, 0, none⟩) t.writes.length c25)] (sub_range 0 rfl))⟩ rfl
    ·obtain ⟨he, hT⟩ := writeE_ok ht hr (show writeX t r = some ⟨t.start, t.reads, t.writes.set i r⟩ by unfold writeX idxW; rw [hif])
     rw [he, hT]
     exact ⟨_, _, rfl, S114.gr, _, rfl, _, _, _, _, (show _ = Value.agg #[.int .i64 t.start, (.slice a22 t.reads.length c23), (.slice (some ⟨g101, 0, none⟩) (t.writes.set i r).length c25)] from by rw [List.length_set]), (hv108.mono le111), (show Wrs _ (.slice (some ⟨g101, 0, none⟩) (t.writes.set i r).length c25) (t.writes.set i r) from by rw [List.length_set]; exact hv112)⟩
   ·refine do_ rfl (.bool false) (ex_geq (m := (idxE t.writes (fun q => samePl q r))) (n := (0 : Int)) (b := false) rfl rfl (decide_eq_false (by omega))) ?_
    simp only [pS, pN, pA, pC, pZ]
    refine do_ rfl (.bool false) (ex_assign _) ?_
    simp only [pS, pN, pA, pC, pZ]
    refine wl_nil (hK100 _ _ ?_)
    refine wp_cond_false rfl ?_
    refine wp_seq_k (fun K115 hK115 => region_wl ?_)
    refine do_ rfl (.pointer (some ⟨n32, 2, none⟩)) (ex_field (q := ⟨n32, 2, none⟩) rfl (fa_63_2 _ _)) ?_
    simp only [pS, pN, pA, pC, pZ]
    refine do_ rfl (.slice a24 t.writes.length c25) (ex_load rfl (load1 (nagg_61 _) (St.cell S98 (i := 0) rfl rfl))) ?_
    simp only [pS, pN, pA, pC, pZ]
    refine do_ rfl (.int .i64 ((t.writes.length : Nat) : Int)) (ex_len Tryd.underlying61 rfl) ?_
    simp only [pS, pN, pA, pC, pZ]
    by_cases hc51 : t.writes.length = 10
    ·refine do_ rfl (.bool true) (ex_eql (m := ((t.writes.length : Nat) : Int)) (n := (10 : Int)) (b := true) rfl rfl (beq_iff_eq.2 (by omega))) ?_
     simp only [pS, pN, pA, pC, pZ]
     refine do_ rfl (.bool true) (ex_assign _) ?_
     simp only [pS, pN, pA, pC, pZ]
     refine wl_nil (hK115 _ _ ?_)
     refine wp_cond_true rfl ?_
     refine wp_seq_k (fun K116 hK116 => region_wl ?_)
     refine do_ rfl (.agg #[(.int .i64 0), (.slice none 0 0), (.slice none 0 0)]) (ex_build (ps := #[]) (bmap0) (by kernel_rfl)) ?_
     simp only [pS, pN, pA, pC, pZ]
     refine stStore (i := 1) (v := (.agg #[(.int .i64 0), (.slice none 0 0), (.slice none 0 0)])) S98 rfl rfl rfl rfl (size_63) (allc3 rfl rfl rfl) (Nat.le_of_ble_eq_true rfl) (fun w117 S118 => ?_)
     simp only [pS, pN, pA, pC, pZ]
     have S118 : St w F w117 F78 [⟨n32, [(.int .i64 t.start), (.slice a22 t.reads.length c23), (.slice a24 t.writes.length c25)], 63⟩, ⟨n8, [(.int .i64 0), (.slice none 0 0), (.slice none 0 0)], 63⟩, ⟨n2, [(.int .i64 t.start), (.slice x0 t.reads.length y0), (.slice x1 t.writes.length y1)], 63⟩] [ownP 4 RdC RdC.mono 38 w.heap.size (.slice a22 t.reads.length c23) t.reads, ownP 4 WrC WrC.mono 42 w.heap.size (.slice a24 t.writes.length c25) t.writes] := S118
     refine do_ rfl (.int .i64 11) (ex_assign _) ?_
     simp only [pS, pN, pA, pC, pZ]
     refine wl_nil (hK116 _ _ ?_)
     refine wp_ret ?_
     (try simp only [Exit.then, Exit.inBlock, ↓reduceIte, Nat.reduceEqDiff])
     refine bodyPost_ret (v := (.tuple #[(.agg #[(.int .i64 0), (.slice none 0 0), (.slice none 0 0)]), (.int .i64 11)])) ?_ rfl ?_
     ·exact res_ct rfl ⟨_, rfl, loadN (cs := [(.int .i64 0), (.slice none 0 0), (.slice none 0 0)]) Tryd.underlying63 rfl (size_63) (St.range S118 (i := 1) rfl 0 [(.int .i64 0), (.slice none 0 0), (.slice none 0 0)] (sub_range 0 rfl))⟩ rfl
     ·obtain ⟨he, hT⟩ := writeE_full ht hr (show writeX t r = none by unfold writeX idxW; rw [idxE_neg hc41]; simp only; rw [if_pos (by omega)])
      rw [he, hT]
      exact ⟨_, _, rfl, S118.gr, _, rfl, _, _, _, _, rfl, (Sl.nil _ _ _), (Sl.nil _ _ _)⟩
    ·refine do_ rfl (.bool false) (ex_eql (m := ((t.writes.length : Nat) : Int)) (n := (10 : Int)) (b := false) rfl rfl (beq_eq_false_iff_ne.2 (by omega))) ?_
     simp only [pS, pN, pA, pC, pZ]
     refine do_ rfl (.bool false) (ex_assign _) ?_
     simp only [pS, pN, pA, pC, pZ]
     refine wl_nil (hK115 _ _ ?_)
     refine wp_cond_false rfl ?_
     refine region_wl ?_
     refine do_ rfl (.pointer (some ⟨n32, 2, none⟩)) (ex_field (q := ⟨n32, 2, none⟩) rfl (fa_63_2 _ _)) ?_
     simp only [pS, pN, pA, pC, pZ]
     refine do_ rfl (.slice a24 t.writes.length c25) (ex_load rfl (load1 (nagg_61 _) (St.cell S98 (i := 0) rfl rfl))) ?_
     simp only [pS, pN, pA, pC, pZ]
     refine do_ rfl (.agg #[(.slice xa60 r.name.length xc61), (.slice xa64 r.key.length xc65), (.bool r.gone), (.slice xa69 r.value.length xc70)]) (ex_load rfl (loadN (cs := [(.slice xa60 r.name.length xc61), (.slice xa64 r.key.length xc65), (.bool r.gone), (.slice xa69 r.value.length xc70)]) Tryd.underlying42 rfl (size_42) (range4 (St.fz S98 (hc77 0 _ rfl)) (St.fz S98 (hc77 1 _ rfl)) (St.fz S98 (hc77 2 _ rfl)) (St.fz S98 (hc77 3 _ rfl))))) ?_
     simp only [pS, pN, pA, pC, pZ]
     refine stNew S98 (v := fun n => .slice (some ⟨n, 0, none⟩) 1 1) rfl (ex_lit (ps := #[(0, (.agg #[(.slice xa60 r.name.length xc61), (.slice xa64 r.key.length xc65), (.bool r.gone), (.slice xa69 r.value.length xc70)]))]) (cells := #[(.slice xa60 r.name.length xc61), (.slice xa64 r.key.length xc65), (.bool r.gone), (.slice xa69 r.value.length xc70)]) (E := 42) (bmap1 rfl) (fun w => by kernel_rfl)) (fun n119 w120 S121 => ?_)
     simp only [pS, pN, pA, pC, pZ]
     have S121 : St w F w120 F78 [⟨n119, [(.slice xa60 r.name.length xc61), (.slice xa64 r.key.length xc65), (.bool r.gone), (.slice xa69 r.value.length xc70)], 42⟩, ⟨n32, [(.int .i64 t.start), (.slice a22 t.reads.length c23), (.slice a24 t.writes.length c25)], 63⟩, ⟨n8, [(.int .i64 0), (.slice none 0 0), (.slice none 0 0)], 63⟩, ⟨n2, [(.int .i64 t.start), (.slice x0 t.reads.length y0), (.slice x1 t.writes.length y1)], 63⟩] [ownP 4 RdC RdC.mono 38 w.heap.size (.slice a22 t.reads.length c23) t.reads, ownP 4 WrC WrC.mono 42 w.heap.size (.slice a24 t.writes.length c25) t.writes] := S121
     refine stPush (i := 0) (r := 1) (p := r) (cs := [(.slice xa60 r.name.length xc61), (.slice xa64 r.key.length xc65), (.bool r.gone), (.slice xa69 r.value.length xc70)]) S121 rfl i42 (.agg #[(.slice none 0 0), (.slice none 0 0), (.bool false), (.slice none 0 0)]) 80 Tryd.underlying61 hi42 hz42 hs42 hb42 rfl (by decide) rfl rfl rfl rfl rfl (WrC.oneCell (p := r) ⟨_, _, _, _, rfl, (r62.mono le76), (r66.mono le76), rfl, (r71.mono le76)⟩) (⟨_, _, _, _, rfl, (r62.mono le76), (r66.mono le76), rfl, (r71.mono le76)⟩) (Nat.le_refl _) S121.gr.below.size (by unfold maxLen; omega) (by omega) ?_
     intro v122 w123 S124 hn125
     simp only [pS, pN, pA, pC, pZ]
     have S124 := St.drop S124 (L' := [⟨n32, [(.int .i64 t.start), (.slice a22 t.reads.length c23), (.slice a24 t.writes.length c25)], 63⟩, ⟨n8, [(.int .i64 0), (.slice none 0 0), (.slice none 0 0)], 63⟩, ⟨n2, [(.int .i64 t.start), (.slice x0 t.reads.length y0), (.slice x1 t.writes.length y1)], 63⟩]) (.cons _ (List.Sublist.refl _))
     have S124 : St w F w123 F78 [⟨n32, [(.int .i64 t.start), (.slice a22 t.reads.length c23), (.slice a24 t.writes.length c25)], 63⟩, ⟨n8, [(.int .i64 0), (.slice none 0 0), (.slice none 0 0)], 63⟩, ⟨n2, [(.int .i64 t.start), (.slice x0 t.reads.length y0), (.slice x1 t.writes.length y1)], 63⟩] [ownP 4 RdC RdC.mono 38 w.heap.size (.slice a22 t.reads.length c23) t.reads, ownP 4 WrC WrC.mono 42 w.heap.size v122 (t.writes ++ [r])] := S124
     obtain ⟨a126, cap127, rfl, h128, h129⟩ := (S124.own (i := 1) rfl).shape
     unfold maxLen at h129
     refine do_ rfl (.pointer (some ⟨n32, 2, none⟩)) (ex_field (q := ⟨n32, 2, none⟩) rfl (fa_63_2 _ _)) ?_
     simp only [pS, pN, pA, pC, pZ]
     refine stStore (i := 0) (v := (.slice a126 (t.writes ++ [r]).length cap127)) S124 rfl rfl rfl rfl (size_61) (allc1 rfl) (Nat.le_of_ble_eq_true rfl) (fun w130 S131 => ?_)
     simp only [pS, pN, pA, pC, pZ]
     have S131 : St w F w130 F78 [⟨n32, [(.int .i64 t.start), (.slice a22 t.reads.length c23), (.slice a126 (t.writes ++ [r]).length cap127)], 63⟩, ⟨n8, [(.int .i64 0), (.slice none 0 0), (.slice none 0 0)], 63⟩, ⟨n2, [(.int .i64 t.start), (.slice x0 t.reads.length y0), (.slice x1 t.writes.length y1)], 63⟩] [ownP 4 RdC RdC.mono 38 w.heap.size (.slice a22 t.reads.length c23) t.reads, ownP 4 WrC WrC.mono 42 w.heap.size (.slice a126 (t.writes ++ [r]).length cap127) (t.writes ++ [r])] := S131
     refine wl_nil (hK99 _ _ ?_)
     refine wp_seq_k (fun K132 hK132 => ?_)
     obtain ⟨F133, S134, le135, hv136⟩ := St.freeze S131 (i := 0) rfl (Nat.le_refl _)
     have S134 : St w F w130 F133 [⟨n32, [(.int .i64 t.start), (.slice a22 t.reads.length c23), (.slice a126 (t.writes ++ [r]).length cap127)], 63⟩, ⟨n8, [(.int .i64 0), (.slice none 0 0), (.slice none 0 0)], 63⟩, ⟨n2, [(.int .i64 t.start), (.slice x0 t.reads.length y0), (.slice x1 t.writes.length y1)], 63⟩] [ownP 4 WrC WrC.mono 42 w.heap.size (.slice a126 (t.writes ++ [r]).length cap127) (t.writes ++ [r])] := S134
     have hv136 : Rds _ (.slice a22 t.reads.length c23) t.reads := hv136
     obtain ⟨F137, S138, le139, hv140⟩ := St.freeze S134 (i := 0) rfl (Nat.le_refl _)
     have S138 : St w F w130 F137 [⟨n32, [(.int .i64 t.start), (.slice a22 t.reads.length c23), (.slice a126 (t.writes ++ [r]).length cap127)], 63⟩, ⟨n8, [(.int .i64 0), (.slice none 0 0), (.slice none 0 0)], 63⟩, ⟨n2, [(.int .i64 t.start), (.slice x0 t.reads.length y0), (.slice x1 t.writes.length y1)], 63⟩] [] := S138
     have hv140 : Wrs _ (.slice a126 (t.writes ++ [r]).length cap127) (t.writes ++ [r]) := hv140
     refine region_wl ?_
     refine do_ rfl (.agg #[(.int .i64 t.start), (.slice a22 t.reads.length c23), (.slice a126 (t.writes ++ [r]).length cap127)]) (ex_load rfl (loadN (cs := [(.int .i64 t.start), (.slice a22 t.reads.length c23), (.slice a126 (t.writes ++ [r]).length cap127)]) Tryd.underlying63 rfl (size_63) (St.range S138 (i := 0) rfl 0 [(.int .i64 t.start), (.slice a22 t.reads.length c23), (.slice a126 (t.writes ++ [r]).length cap127)] (sub_range 0 rfl)))) ?_
     simp only [pS, pN, pA, pC, pZ]
     refine stStore (i := 1) (v := (.agg #[(.int .i64 t.start), (.slice a22 t.reads.length c23), (.slice a126 (t.writes ++ [r]).length cap127)])) S138 rfl rfl rfl rfl (size_63) (allc3 rfl rfl rfl) (Nat.le_of_ble_eq_true rfl) (fun w141 S142 => ?_)
     simp only [pS, pN, pA, pC, pZ]
     have S142 : St w F w141 F137 [⟨n32, [(.int .i64 t.start), (.slice a22 t.reads.length c23), (.slice a126 (t.writes ++ [r]).length cap127)], 63⟩, ⟨n8, [(.int .i64 t.start), (.slice a22 t.reads.length c23), (.slice a126 (t.writes ++ [r]).length cap127)], 63⟩, ⟨n2, [(.int .i64 t.start), (.slice x0 t.reads.length y0), (.slice x1 t.writes.length y1)], 63⟩] [] := S142
     refine do_ rfl (.int .i64 0) (ex_assign _) ?_
     simp only [pS, pN, pA, pC, pZ]
     refine wl_nil (hK132 _ _ ?_)
     refine wp_ret ?_
     (try simp only [Exit.then, Exit.inBlock, ↓reduceIte, Nat.reduceEqDiff])
     refine bodyPost_ret (v := (.tuple #[(.agg #[(.int .i64 t.start), (.slice a22 t.reads.length c23), (.slice a126 (t.writes ++ [r]).length cap127)]), (.int .i64 0)])) ?_ rfl ?_
     ·exact res_ct rfl ⟨_, rfl, loadN (cs := [(.int .i64 t.start), (.slice a22 t.reads.length c23), (.slice a126 (t.writes ++ [r]).length cap127)]) Tryd.underlying63 rfl (size_63) (St.range S142 (i := 1) rfl 0 [(.int .i64 t.start), (.slice a22 t.reads.length c23), (.slice a126 (t.writes ++ [r]).length cap127)] (sub_range 0 rfl))⟩ rfl
     ·obtain ⟨he, hT⟩ := writeE_ok ht hr (show writeX t r = some ⟨t.start, t.reads, t.writes ++ [r]⟩ by unfold writeX idxW; rw [idxE_neg hc41]; simp only; rw [if_neg (by omega)])
      rw [he, hT]
      exact ⟨_, _, rfl, S142.gr, _, rfl, _, _, _, _, rfl, (hv136.mono le139), hv140⟩
  ·refine do_ rfl (.bool true) (ex_neq (m := (wrE r)) (n := (0 : Int)) (b := true) rfl rfl (bne_iff_ne.2 (by omega))) ?_
   simp only [pS, pN, pA, pC, pZ]
   refine wl_nil (hK20 _ _ ?_)
   refine wp_cond_true rfl ?_
   refine wp_seq_k (fun K143 hK143 => region_wl ?_)
   refine do_ rfl (.agg #[(.int .i64 0), (.slice none 0 0), (.slice none 0 0)]) (ex_build (ps := #[]) (bmap0) (by kernel_rfl)) ?_
   simp only [pS, pN, pA, pC, pZ]
   refine do_ rfl (.int .i64 (wrE r)) (ex_move _) ?_
   simp only [pS, pN, pA, pC, pZ]
   refine stStore (i := 0) (v := (.agg #[(.int .i64 0), (.slice none 0 0), (.slice none 0 0)])) S19 rfl rfl rfl rfl (size_63) (allc3 rfl rfl rfl) (Nat.le_of_ble_eq_true rfl) (fun w144 S145 => ?_)
   simp only [pS, pN, pA, pC, pZ]
   have S145 : St w F w144 F [⟨n8, [(.int .i64 0), (.slice none 0 0), (.slice none 0 0)], 63⟩, ⟨n5, [(.slice z0 r.name.length z1), (.slice z2 r.key.length z3), (.bool r.gone), (.slice z4 r.value.length z5)], 42⟩, ⟨n2, [(.int .i64 t.start), (.slice x0 t.reads.length y0), (.slice x1 t.writes.length y1)], 63⟩] [] := S145
   refine do_ rfl (.int .i64 (wrE r)) (ex_assign _) ?_
   simp only [pS, pN, pA, pC, pZ]
   refine wl_nil (hK143 _ _ ?_)
   refine wp_ret ?_
   (try simp only [Exit.then, Exit.inBlock, ↓reduceIte, Nat.reduceEqDiff])
   refine bodyPost_ret (v := (.tuple #[(.agg #[(.int .i64 0), (.slice none 0 0), (.slice none 0 0)]), (.int .i64 (wrE r))])) ?_ rfl ?_
   ·exact res_ct rfl ⟨_, rfl, loadN (cs := [(.int .i64 0), (.slice none 0 0), (.slice none 0 0)]) Tryd.underlying63 rfl (size_63) (St.range S145 (i := 0) rfl 0 [(.int .i64 0), (.slice none 0 0), (.slice none 0 0)] (sub_range 0 rfl))⟩ rfl
   ·have he : writeE t r = wrE r := by unfold writeE; rw [if_neg (by omega), if_pos hc19]
    have hT : writeT t r = nilX := by unfold writeT; rw [if_pos (by rw [he]; exact hc19)]
    rw [he, hT]
    exact ⟨_, _, rfl, S145.gr, _, rfl, _, _, _, _, rfl, (Sl.nil _ _ _), (Sl.nil _ _ _)⟩
 ·refine do_ rfl (.bool true) (ex_neq (m := (txE t)) (n := (0 : Int)) (b := true) rfl rfl (bne_iff_ne.2 (by omega))) ?_
  simp only [pS, pN, pA, pC, pZ]
  refine wl_nil (hK15 _ _ ?_)
  refine wp_cond_true rfl ?_
  refine wp_seq_k (fun K146 hK146 => region_wl ?_)
  refine do_ rfl (.agg #[(.int .i64 0), (.slice none 0 0), (.slice none 0 0)]) (ex_build (ps := #[]) (bmap0) (by kernel_rfl)) ?_
  simp only [pS, pN, pA, pC, pZ]
  refine do_ rfl (.int .i64 (txE t)) (ex_move _) ?_
  simp only [pS, pN, pA, pC, pZ]
  refine stStore (i := 0) (v := (.agg #[(.int .i64 0), (.slice none 0 0), (.slice none 0 0)])) S14 rfl rfl rfl rfl (size_63) (allc3 rfl rfl rfl) (Nat.le_of_ble_eq_true rfl) (fun w147 S148 => ?_)
  simp only [pS, pN, pA, pC, pZ]
  have S148 : St w F w147 F [⟨n8, [(.int .i64 0), (.slice none 0 0), (.slice none 0 0)], 63⟩, ⟨n5, [(.slice z0 r.name.length z1), (.slice z2 r.key.length z3), (.bool r.gone), (.slice z4 r.value.length z5)], 42⟩, ⟨n2, [(.int .i64 t.start), (.slice x0 t.reads.length y0), (.slice x1 t.writes.length y1)], 63⟩] [] := S148
  refine do_ rfl (.int .i64 (txE t)) (ex_assign _) ?_
  simp only [pS, pN, pA, pC, pZ]
  refine wl_nil (hK146 _ _ ?_)
  refine wp_ret ?_
  (try simp only [Exit.then, Exit.inBlock, ↓reduceIte, Nat.reduceEqDiff])
  refine bodyPost_ret (v := (.tuple #[(.agg #[(.int .i64 0), (.slice none 0 0), (.slice none 0 0)]), (.int .i64 (txE t))])) ?_ rfl ?_
  ·exact res_ct rfl ⟨_, rfl, loadN (cs := [(.int .i64 0), (.slice none 0 0), (.slice none 0 0)]) Tryd.underlying63 rfl (size_63) (St.range S148 (i := 0) rfl 0 [(.int .i64 0), (.slice none 0 0), (.slice none 0 0)] (sub_range 0 rfl))⟩ rfl
  ·have he : writeE t r = txE t := by unfold writeE; rw [if_pos hc13]
   have hT : writeT t r = nilX := by unfold writeT; rw [if_pos (by rw [he]; exact hc13)]
   rw [he, hT]
   exact ⟨_, _, rfl, S148.gr, _, rfl, _, _, _, _, rfl, (Sl.nil _ _ _), (Sl.nil _ _ _)⟩
end Go.Proofs.YticbfdhdipfjmaaDoor
namespace Go.Proofs.YticbfdhdipfjmaaDoor
open Go.RowKit
set_option maxRecDepth 100000
set_option linter.unusedVariables false
set_option linter.unusedSimpArgs false
theorem TxV.dropT {w : World} {F : Fz} {n : Nat} {T : TypeId} (hs : Sat w F) (hb : w.heap[n]? = some (.cells [Value.int .i64 0, Value.slice none 0 0, Value.slice none 0 0].toArray T (0, 0))) (hc : ∀ u ∈ [Value.int .i64 0, Value.slice none 0 0, Value.slice none 0 0], ∀ x, u ≠ bv x) {u : Value} {t : Tx} (h : TxV F u t) : TxV (dropF F n) u t := by
  obtain ⟨x0, y0, x1, y1, rfl, h0, h1⟩ := h
  exact ⟨x0, y0, x1, y1, rfl, Rds.dropF hs hb hc (by simp) h0, Wrs.dropF hs hb hc (by simp) h1⟩
theorem txnWriteIs_spec (F : Fz) (w : World) (v u : Value) (t : Tx) (r : Wr) (t' : Tx) (hs : Sat w F) (hv : TxV F v t) (hu : WrV F u r) (ht : TxOk t) (hr : WrOk r) (e : writeX t r = some t') :
    Calls Tryd.prog 26 #[v, u] w (Gives w F fun F' u => TxE F' u t' 0) := by
  have := txnWriteT_spec F w v u t r hs hv hu (fun x hx => (ht.writes x hx).small) hr.small
  obtain ⟨h1, h2⟩ := writeE_ok ht hr e
  rwa [h1, h2] at this
theorem txnNoteIs_spec (F : Fz) (w : World) (v u : Value) (t : Tx) (r : Rd) (t' : Tx) (hs : Sat w F) (hv : TxV F v t) (hu : RdV F u r) (ht : TxOk t) (hr : RdOk r) (e : noteX t r = some t') :
    Calls Tryd.prog 25 #[v, u] w (Gives w F fun F' u => TxE F' u t' 0) := by
  have := txnNote_spec F w v u t r hs hv hu (fun x hx => (ht.writes x hx).small)
  obtain ⟨h1, h2⟩ := noteE_ok ht hr e
  rwa [h1, h2] at this
theorem txnCheckOk_spec (F : Fz) (w : World) (v : Value) (t : Tx) (hs : Sat w F) (hv : TxV F v t) (ht : TxOk t) :
    Calls Tryd.prog 30 #[v] w (Tells w (.int .i64 0)) := by
  have := txnCheck_spec F w v t hs hv (fun x hx => (ht.writes x hx).small)
  rwa [txE_ok.2 ht] at this
theorem txW_step {l : List Pl} {k : Nat} {p : Pl} (hp : l[k]? = some p) (hk : k < 10) : writeX (txW (writesN l k)) (writeP p) = some (txW (writesN l (k + 1))) := by
  have h := txW_ok (writesN l k) (writesN_ok l k) (by have := writesN_len l k; omega)
  obtain ⟨u, hu⟩ := writeX_room (t := txW (writesN l k)) (w := writeP p) (by have := writesN_len l k; omega)
  rw [writesN_succ hp, txW_snoc, hu]; rfl
theorem txR_step {t : Tx} (ht : TxOk t) (h0 : t.reads = []) {l : List Pl} {k : Nat} {p : Pl} (hp : l[k]? = some p) (hk : k < 20) : noteX (txR t (readsN l k)) (readP p) = some (txR t (readsN l (k + 1))) := by
  have h := txR_ok ht h0 (readsN l k) (readsN_ok l k) (by have := readsN_len l k; omega)
  obtain ⟨u, hu⟩ := noteX_room (t := txR t (readsN l k)) (r := readP p) (by have := readsN_len l k; omega)
  rw [readsN_succ hp, txR_snoc, hu]; rfl
def txO (l m : List Pl) : Tx := txR (txW (writesN l 8)) (readsN m 8)
theorem txO_ok (l m : List Pl) : TxOk (txO l m) ∧ (txO l m).start = 0 ∧ (txO l m).writes = (txW (writesN l 8)).writes ∧ (txO l m).reads.length ≤ 8 ∧ (txO l m).writes.length ≤ 8 := by
  have h := txW_ok (writesN l 8) (writesN_ok l 8) (by have := writesN_len l 8; omega)
  have k := txR_ok h.1 h.2.2.1 (readsN m 8) (readsN_ok m 8) (by have := readsN_len m 8; omega)
  have h1 := writesN_len l 8
  have h2 := readsN_len m 8
  refine ⟨k.1, k.2.2.2.trans h.2.2.2, k.2.2.1, Nat.le_trans k.2.1 h2, ?_⟩
  show (txR _ _).writes.length ≤ 8
  rw [k.2.2.1]; omega
end Go.Proofs.YticbfdhdipfjmaaDoor
namespace Go.Proofs.YticbfdhdipfjmaaDoor
open Go.RowKit
set_option linter.unusedVariables false
structure HL (P : Program) (ops : Array Oper) (Q : Exit → Act → World → Prop) (F : Fz) (fuel : Nat) (listed : Array Bool) (a : Act) (w : World) : Prop where
  out : Go.wpAnyH P .any ops Q (fun w => Sat w F) fuel listed a w
section
variable {P : Program} {ops : Array Oper} {Q : Exit → Act → World → Prop} {F : Fz} {fuel : Nat} {listed : Array Bool} {a : Act} {w : World} {o : Oper}
theorem region_hl {id : Nat} {l : List Oper} {w0 : World} {F0 : Fz} {L : List Blk} {M : List RowP} (S : St w0 F0 w F L M) (hm : P.follows .mixedOrders = true) (h : ∀ w', St w0 F0 w' F L M → HL P l.toArray Q F l.length (Array.replicate l.length false) a w') : (Code.region id l.toArray true).wp P Q a w := by
  have := (h { w with drawn := w.drawn + 1 } (S.tells (Below.refl w.heap.size w).drew)).out
  refine wp_region_held (S := fun w => Sat w F) hm ?_
  simpa using this
def canTake (ops : Array Oper) (listed : Array Bool) (i : Nat) : Bool := Region.noSelect ops && Region.free .any ops listed i && (Region.ready .any ops listed).contains i
theorem hl_take {l : List Oper} (i : Nat) (hi : l[i]? = some o) (hc : canTake l.toArray listed i = true) {v : Value} (hQ : ∀ c a w, Q (.panic c) (a.put o.dst v) w → Q (.panic c) a w) (hS : Sat w F) (hw : Region.wanted o (yielded l.toArray a.tmps) = true)
    (hr : ∀ w1, Sat w1 F → (execOp a.eval o).run P w1 = .ok (.value v) w1) (h : HL P l.toArray Q F fuel (listed.setIfInBounds i true) (a.put o.dst v) w) : HL P l.toArray Q F (fuel + 1) listed a w := by
  simp only [canTake, Bool.and_eq_true] at hc
  exact ⟨Go.wpAnyH_take (by simpa using hi) hc.1.1 hc.1.2 hc.2 hQ (.inl ⟨hw, hr⟩) hS h.out⟩
theorem hl_skip {l : List Oper} (i : Nat) (hi : l[i]? = some o) (hc : canTake l.toArray listed i = true) (hQ : ∀ c a w, Q (.panic c) (a.put o.dst undef) w → Q (.panic c) a w) (hS : Sat w F) (hw : Region.wanted o (yielded l.toArray a.tmps) = false)
    (h : HL P l.toArray Q F fuel (listed.setIfInBounds i true) (a.put o.dst undef) w) : HL P l.toArray Q F (fuel + 1) listed a w := by
  simp only [canTake, Bool.and_eq_true] at hc
  exact ⟨Go.wpAnyH_take (by simpa using hi) hc.1.1 hc.1.2 hc.2 hQ (.inr ⟨hw, rfl⟩) hS h.out⟩
theorem Oper.wp_exit {K K' : Act → World → Prop} (hh : o.wp P a w K (Exit.then K' Q)) : o.wp P a w K Q := by
  unfold Oper.wp at *
  generalize (execOp a.eval o).run P w = r at *
  cases r with
  | ok n w' =>
    cases n <;> simp only [Oper.upon] at hh ⊢ <;> try exact hh
  | halt x w' => cases x <;> exact hh
/-- The only one that may come up. -/
theorem hl_next {l : List Oper} (i : Nat) (hr : Region.ready .any l.toArray listed = [i]) (hi : l[i]? = some o) (h : WL P l.toArray (Exit.then (fun a' w' => Sat w' F ∧ Go.wpAnyH P .any l.toArray Q (fun w => Sat w F) fuel (listed.setIfInBounds i true) a' w') Q) [o] a w) : HL P l.toArray Q F (fuel + 1) listed a w := by
  refine ⟨Go.wpAnyH_all hr (by simp) fun j hj => ?_⟩
  have hji : j = i := by simpa using hj
  subst hji
  have h1 := h.out
  unfold wpList at h1
  unfold wpOp
  have hi' : l.toArray[j]? = some o := by simpa using hi
  simp only [hi']
  split
  · rename_i hw
    rw [if_pos hw] at h1
    rcases h1 with h1 | h1
    · left
      refine Oper.wp_mono (fun a' w' hk => ?_) (Oper.wp_exit h1)
      exact hk
    · exact .inr h1
  · rename_i hw
    rw [if_neg hw] at h1
    exact h1
theorem hl_back (hS : Sat w F) (h : HL P ops Q F fuel listed a w) : Exit.then (fun a' w' => Sat w' F ∧ Go.wpAnyH P .any ops Q (fun w => Sat w F) fuel listed a' w') Q .normal a w := ⟨hS, h.out⟩
theorem hl_done (hr : Region.ready .any ops listed = []) (h : Q .normal a w) : HL P ops Q F fuel listed a w := ⟨Go.wpAnyH_done hr h _⟩
end
end Go.Proofs.YticbfdhdipfjmaaDoor
namespace Go.Proofs.YticbfdhdipfjmaaDoor
open Go.ChangeShapes Go.WideShapes Go.ChangeAt Go.RowKit Go.Deep
set_option maxRecDepth 100000
theorem laidVars_at {P : Program} {W : World} : ∀ {l : List (String × DataW Unit)} {ps : List MemPlace}, DataW.LaidVars P W l ps → ∀ (i : Nat) (n : String) (d : DataW Unit), l[i]? = some (n, d) →
    ∃ g t cs fuel p, P.globalNamed n = some g ∧ (P.globals[g]?).map (·.type) = some t ∧ W.var? P n = some cs ∧ DataW.trod (fun _ => ()) P W 0 (fun _ => true) false fuel t cs.toList = some (d, p)
  | [], _, _, i, n, d, hi => by simp at hi
  | (n', d') :: r, ps, h, i, n, d, hi => by
    obtain ⟨g, t, cs, fuel, p, q, h1, h2, h3, h4, h5, h6⟩ := h
    cases i with
    | zero =>
      simp only [List.getElem?_cons_zero, Option.some.injEq, Prod.mk.injEq] at hi
      obtain ⟨rfl, rfl⟩ := hi
      exact ⟨g, t, cs, fuel, p, h1, h2, h3, h4⟩
    | succ i => exact laidVars_at h5 i n d (by simpa using hi)
theorem tabIs_at {P : Program} {W : World} {l : List (String × DataW Unit)} (h : laidMet P l W) (i : Nat) (name : String) (k : IntKind) (zs : List Int) {g : Nat} {t e : TypeId} {n : Nat}
    (hi : l[i]? = some (name, Lib.tabData k zs))
    (hg : P.globalNamed name = some g) (hty : (P.globals[g]?).map (·.type) = some t) (ht : P.underlying t = some (.array n e)) (he : P.underlying e = some (.int k)) (hce : P.cellsOf e = 1) (hct : P.cellsOf t = n) : Lib.TabIs P W name k zs := by
  obtain ⟨ps, hv, _, _⟩ := h
  obtain ⟨g', t', cs, fuel, p, hg', ht', hvar, hd⟩ := laidVars_at hv i name _ hi
  obtain rfl := Option.some.inj (hg.symm.trans hg')
  obtain rfl := Option.some.inj (hty.symm.trans ht')
  unfold Lib.TabIs
  rw [hvar, ← Lib.cells_of_tab ht he hce hct hd]
theorem array5 {α : Type} {cs : Array α} (h : cs.size = 5) : ∃ c0 c1 c2 c3 c4, cs = #[c0, c1, c2, c3, c4] := by
  obtain ⟨l⟩ := cs
  match l, h with
  | [c0, c1, c2, c3, c4], _ => exact ⟨c0, c1, c2, c3, c4, rfl⟩
/-- A struct of five one-cell fields, by value, opened. -/
theorem open_agg5 {H : Type} {enc : TypeId × Value → H} {P : Program} {w : World} {base : Nat} {spare : Nat → Bool} {held : Bool} {r : Reach} {b0 : Nat} {t : TypeId} {f0 f1 f2 f3 f4 : Field} {v : Value} {d : DataW H} {p : List MemPlace}
    (hs : P.underlying t = some (.struct #[f0, f1, f2, f3, f4])) (hone : oneCellFields P #[f0, f1, f2, f3, f4] = true) (hC : P.cellsOf t = 5)
    (hv : Value.okWide P w r b0 t v) (h : DataW.Trod enc P w base spare held t v d p) :
    ∃ (v0 v1 v2 v3 v4 : Value) (y0 y1 y2 y3 y4 : DataW H × List MemPlace) (n : Nat), v = .agg #[v0, v1, v2, v3, v4] ∧
      DataW.trod enc P w base spare held n f0.type [v0] = some y0 ∧ DataW.trod enc P w base spare held n f1.type [v1] = some y1 ∧ DataW.trod enc P w base spare held n f2.type [v2] = some y2 ∧
      DataW.trod enc P w base spare held n f3.type [v3] = some y3 ∧ DataW.trod enc P w base spare held n f4.type [v4] = some y4 := by
  obtain ⟨cs, rfl, hsz⟩ := okWide_struct hs hv
  obtain ⟨c0, c1, c2, c3, c4, rfl⟩ := array5 (hsz.trans hC)
  obtain ⟨fuel, hf⟩ := h
  obtain ⟨xs, n, _, _, _, hlen, hi⟩ := DataW.trod_struct hs hf
  have H1 : ∀ (i : Nat) f, #[f0, f1, f2, f3, f4][i]? = some f → f.offset = i ∧ P.cellsOf f.type = 1 := fun i f hf => by
    obtain ⟨o, k⟩ := hone_of hone i f hf
    exact ⟨o, k⟩
  match xs, hlen with
  | [y0, y1, y2, y3, y4], _ =>
    refine ⟨c0, c1, c2, c3, c4, y0, y1, y2, y3, y4, n, rfl, ?_, ?_, ?_, ?_, ?_⟩
    · have := hi 0 f0 rfl; rw [(H1 0 f0 rfl).1, (H1 0 f0 rfl).2] at this; simpa [Value.cells] using this
    · have := hi 1 f1 rfl; rw [(H1 1 f1 rfl).1, (H1 1 f1 rfl).2] at this; simpa [Value.cells] using this
    · have := hi 2 f2 rfl; rw [(H1 2 f2 rfl).1, (H1 2 f2 rfl).2] at this; simpa [Value.cells] using this
    · have := hi 3 f3 rfl; rw [(H1 3 f3 rfl).1, (H1 3 f3 rfl).2] at this; simpa [Value.cells] using this
    · have := hi 4 f4 rfl; rw [(H1 4 f4 rfl).1, (H1 4 f4 rfl).2] at this; simpa [Value.cells] using this
end Go.Proofs.YticbfdhdipfjmaaDoor
namespace Go.Proofs.YticbfdhdipfjmaaDoor
open Go.RowKit
set_option maxRecDepth 100000
set_option linter.unusedVariables false
/-- The table of what a kind has. -/
def hasL : List Int := [0, 0, 3, 7, 11, 3, 0, 0, 3]
def Has (w : World) : Prop := ∀ i (hi : i < hasL.length), w.cell? ⟨0, i, none⟩ = some (.int .i64 hasL[i])
/-- What wire.Check tells, by the lengths of the parts; h: what the kind has. -/
def partsN (h : Nat) (n y l v : Nat) : Int :=
  if h.testBit 0 ∧ ¬ (1 ≤ n ∧ n ≤ 8) then 1 else if h.testBit 0 ∧ ¬ (1 ≤ y ∧ y ≤ 16) then 1 else if h.testBit 2 ∧ ¬ (1 ≤ l ∧ l ≤ 16) then 1 else if 32 < v then 1
  else if (¬ h.testBit 0 ∧ 0 < n) ∨ (¬ h.testBit 1 ∧ 0 < y) ∨ (¬ h.testBit 2 ∧ 0 < l) ∨ (¬ h.testBit 3 ∧ 0 < v) then 4 else 0
set_option maxHeartbeats 8000000 in
theorem wireCheck_0 (w : World) (k : Nat) (k1 : 1 ≤ k) (k8 : k ≤ 8) (hg : 0 < w.heap.size) (hc : w.cell? ⟨0, k, none⟩ = some (.int .i64 0))
    (a0 a1 a2 a3 : Option Addr) (n y l v c0 c1 c2 c3 : Nat) (bn : n ≤ 9223372036854775807) (by' : y ≤ 9223372036854775807) (bl : l ≤ 9223372036854775807) (bv' : v ≤ 9223372036854775807) (hyc : y ≤ c1) (hyc' : c1 ≤ maxLen) (hlc : l ≤ c2) (hlc' : c2 ≤ maxLen) :
    Calls Tryd.prog 23 #[.agg #[.int .i64 k, .slice a0 n c0, .slice a1 y c1, .slice a2 l c2, .slice a3 v c3]] w (Tells w (.int .i64 (partsN 0 n y l v))) := by
  have HA : Hid (partsN 0 n y l v = if 32 < v then 1 else if 0 < n ∨ 0 < y ∨ 0 < l ∨ 0 < v then 4 else 0) := by
    unfold Hid partsN
    rw [show (0 : Nat).testBit 0 = false from rfl, show (0 : Nat).testBit 1 = false from rfl, show (0 : Nat).testBit 2 = false from rfl, show (0 : Nat).testBit 3 = false from rfl]
    simp
  generalize partsN 0 n y l v = r at *
  have ix0 : ∀ (X : World) (n' y' l' v' : Nat), (Instr.index 56 (.agg #[.slice a0 n' c0, .slice a1 y' c1, .slice a2 l' c2, .slice a3 v' c3]) (.int .i64 0)).run Tryd.prog X = .ok (.slice a0 n' c0) X := fun _ _ _ _ _ => by kernel_rfl
  have ix1 : ∀ (X : World) (n' y' l' v' : Nat), (Instr.index 56 (.agg #[.slice a0 n' c0, .slice a1 y' c1, .slice a2 l' c2, .slice a3 v' c3]) (.int .i64 1)).run Tryd.prog X = .ok (.slice a1 y' c1) X := fun _ _ _ _ _ => by kernel_rfl
  have ix2 : ∀ (X : World) (n' y' l' v' : Nat), (Instr.index 56 (.agg #[.slice a0 n' c0, .slice a1 y' c1, .slice a2 l' c2, .slice a3 v' c3]) (.int .i64 2)).run Tryd.prog X = .ok (.slice a2 l' c2) X := fun _ _ _ _ _ => by kernel_rfl
  have ix3 : ∀ (X : World) (n' y' l' v' : Nat), (Instr.index 56 (.agg #[.slice a0 n' c0, .slice a1 y' c1, .slice a2 l' c2, .slice a3 v' c3]) (.int .i64 3)).run Tryd.prog X = .ok (.slice a3 v' c3) X := fun _ _ _ _ _ => by kernel_rfl
  go_enter Tryd.func23, Tryd.ntmps23
  go_wp2_with fail
  · go_ret
    exact ⟨retInt (Eq.symm (HA.out.trans (by first | rw [if_pos (by omega)] | rw [if_neg (by omega), if_pos (by omega)] | rw [if_neg (by omega), if_neg (by omega)]))), (Below.refl _ _).alloc (Nat.le_refl _) _⟩
  · go_loop [58] (fun t => ∃ i : Nat, i ≤ 4 ∧ t = .int .i64 i ∧ (0 < i → n = 0) ∧ (1 < i → y = 0) ∧ (2 < i → l = 0) ∧ (3 < i → v = 0)) (fun t => 4 - (intOf t).toNat)
    case atStart => exact ⟨0, by omega, rfl, by omega⟩
    case round =>
      obtain ⟨i, hi, rfl, hok⟩ := hrel
      have HOK := hid hok
      clear hok
      rcases (by omega : i = 0 ∨ i = 1 ∨ i = 2 ∨ i = 3 ∨ i = 4) with rfl | rfl | rfl | rfl | rfl
      all_goals
        go_wp2_with fail
      all_goals first
        | exact ⟨⟨1, by omega, rfl, (by have h := HOK.out; omega)⟩, by simp [intOf]⟩
        | exact ⟨⟨_, _, _, _, ⟨1, by omega, rfl, (by have h := HOK.out; omega)⟩, rfl, rfl, rfl, rfl⟩, by simp [intOf]⟩
        | exact ⟨⟨2, by omega, rfl, (by have h := HOK.out; omega)⟩, by simp [intOf]⟩
        | exact ⟨⟨_, _, _, _, ⟨2, by omega, rfl, (by have h := HOK.out; omega)⟩, rfl, rfl, rfl, rfl⟩, by simp [intOf]⟩
        | exact ⟨⟨3, by omega, rfl, (by have h := HOK.out; omega)⟩, by simp [intOf]⟩
        | exact ⟨⟨_, _, _, _, ⟨3, by omega, rfl, (by have h := HOK.out; omega)⟩, rfl, rfl, rfl, rfl⟩, by simp [intOf]⟩
        | exact ⟨⟨4, by omega, rfl, (by have h := HOK.out; omega)⟩, by simp [intOf]⟩
        | exact ⟨⟨_, _, _, _, ⟨4, by omega, rfl, (by have h := HOK.out; omega)⟩, rfl, rfl, rfl, rfl⟩, by simp [intOf]⟩
        | (go_ret; have h := HOK.out; exact ⟨retInt (Eq.symm (HA.out.trans (by first | rw [if_pos (by omega)] | rw [if_neg (by omega), if_pos (by omega)] | rw [if_neg (by omega), if_neg (by omega)]))), (Below.refl _ _).alloc (Nat.le_refl _) _⟩)
set_option maxHeartbeats 8000000 in
theorem wireCheck_3 (w : World) (k : Nat) (k1 : 1 ≤ k) (k8 : k ≤ 8) (hg : 0 < w.heap.size) (hc : w.cell? ⟨0, k, none⟩ = some (.int .i64 3))
    (a0 a1 a2 a3 : Option Addr) (n y l v c0 c1 c2 c3 : Nat) (bn : n ≤ 9223372036854775807) (by' : y ≤ 9223372036854775807) (bl : l ≤ 9223372036854775807) (bv' : v ≤ 9223372036854775807) (hyc : y ≤ c1) (hyc' : c1 ≤ maxLen) (hlc : l ≤ c2) (hlc' : c2 ≤ maxLen) :
    Calls Tryd.prog 23 #[.agg #[.int .i64 k, .slice a0 n c0, .slice a1 y c1, .slice a2 l c2, .slice a3 v c3]] w (Tells w (.int .i64 (partsN 3 n y l v))) := by
  have HA : Hid (partsN 3 n y l v = if ¬ (1 ≤ n ∧ n ≤ 8) then 1 else if ¬ (1 ≤ y ∧ y ≤ 16) then 1 else if 32 < v then 1 else if 0 < l ∨ 0 < v then 4 else 0) := by
    unfold Hid partsN
    rw [show (3 : Nat).testBit 0 = true from rfl, show (3 : Nat).testBit 1 = true from rfl, show (3 : Nat).testBit 2 = false from rfl, show (3 : Nat).testBit 3 = false from rfl]
    simp
  generalize partsN 3 n y l v = r at *
  have ix0 : ∀ (X : World) (n' y' l' v' : Nat), (Instr.index 56 (.agg #[.slice a0 n' c0, .slice a1 y' c1, .slice a2 l' c2, .slice a3 v' c3]) (.int .i64 0)).run Tryd.prog X = .ok (.slice a0 n' c0) X := fun _ _ _ _ _ => by kernel_rfl
  have ix1 : ∀ (X : World) (n' y' l' v' : Nat), (Instr.index 56 (.agg #[.slice a0 n' c0, .slice a1 y' c1, .slice a2 l' c2, .slice a3 v' c3]) (.int .i64 1)).run Tryd.prog X = .ok (.slice a1 y' c1) X := fun _ _ _ _ _ => by kernel_rfl
  have ix2 : ∀ (X : World) (n' y' l' v' : Nat), (Instr.index 56 (.agg #[.slice a0 n' c0, .slice a1 y' c1, .slice a2 l' c2, .slice a3 v' c3]) (.int .i64 2)).run Tryd.prog X = .ok (.slice a2 l' c2) X := fun _ _ _ _ _ => by kernel_rfl
  have ix3 : ∀ (X : World) (n' y' l' v' : Nat), (Instr.index 56 (.agg #[.slice a0 n' c0, .slice a1 y' c1, .slice a2 l' c2, .slice a3 v' c3]) (.int .i64 3)).run Tryd.prog X = .ok (.slice a3 v' c3) X := fun _ _ _ _ _ => by kernel_rfl
  by_cases q0 : 1 ≤ n ∧ n ≤ 8
  case neg =>
    have h0 := hid (nameN_bad q0)
    go_enter Tryd.func23, Tryd.ntmps23
    go_wp2_with (go_at_call 28; refine (name_len _ _ _ _).mono ?_; rw [h0.out]; rintro e w' ⟨rfl, rfl⟩)
    go_ret
    exact ⟨retInt (Eq.symm (HA.out.trans (by first | rw [if_pos (by omega)] | rw [if_neg (by omega), if_pos (by omega)] | rw [if_neg (by omega), if_neg (by omega), if_pos (by omega)] | rw [if_neg (by omega), if_neg (by omega), if_neg (by omega), if_pos (by omega)] | rw [if_neg (by omega), if_neg (by omega), if_neg (by omega), if_neg (by omega)]))), (Below.refl _ _).alloc (Nat.le_refl _) _⟩
  by_cases q1 : 1 ≤ y ∧ y ≤ 16
  case neg =>
    have h0 := hid (nameN_ok q0.1 q0.2)
    have h1 := hid (checkN_bad q1)
    go_enter Tryd.func23, Tryd.ntmps23
    go_wp2_with (first | (go_at_call 28; refine (name_len _ _ _ _).mono ?_; rw [h0.out]; rintro e w' ⟨rfl, rfl⟩) | (go_at_call 29; refine (check_len _ _ _ _ hyc hyc').mono ?_; rw [h1.out]; rintro e w' ⟨rfl, rfl⟩))
    go_ret
    exact ⟨retInt (Eq.symm (HA.out.trans (by first | rw [if_pos (by omega)] | rw [if_neg (by omega), if_pos (by omega)] | rw [if_neg (by omega), if_neg (by omega), if_pos (by omega)] | rw [if_neg (by omega), if_neg (by omega), if_neg (by omega), if_pos (by omega)] | rw [if_neg (by omega), if_neg (by omega), if_neg (by omega), if_neg (by omega)]))), (Below.refl _ _).alloc (Nat.le_refl _) _⟩
  have h0 := hid (nameN_ok q0.1 q0.2)
  have h1 := hid (checkN_ok q1.1 q1.2)
  go_enter Tryd.func23, Tryd.ntmps23
  go_wp2_with fail
  refine (name_len _ _ _ _).mono ?_; rw [h0.out]; rintro e w' ⟨rfl, rfl⟩
  go_wp2_with fail
  refine (check_len _ _ _ _ hyc hyc').mono ?_; rw [h1.out]; rintro e w' ⟨rfl, rfl⟩
  go_wp2_with fail
  · go_ret
    exact ⟨retInt (Eq.symm (HA.out.trans (by first | rw [if_pos (by omega)] | rw [if_neg (by omega), if_pos (by omega)] | rw [if_neg (by omega), if_neg (by omega), if_pos (by omega)] | rw [if_neg (by omega), if_neg (by omega), if_neg (by omega), if_pos (by omega)] | rw [if_neg (by omega), if_neg (by omega), if_neg (by omega), if_neg (by omega)]))), (Below.refl _ _).alloc (Nat.le_refl _) _⟩
  · go_loop [58] (fun t => ∃ i : Nat, i ≤ 4 ∧ t = .int .i64 i ∧ (2 < i → l = 0) ∧ (3 < i → v = 0)) (fun t => 4 - (intOf t).toNat)
    case atStart => exact ⟨0, by omega, rfl, by omega⟩
    case round =>
      obtain ⟨i, hi, rfl, hok⟩ := hrel
      have HOK := hid hok
      clear hok
      rcases (by omega : i = 0 ∨ i = 1 ∨ i = 2 ∨ i = 3 ∨ i = 4) with rfl | rfl | rfl | rfl | rfl
      all_goals
        go_wp2_with fail
      all_goals first
        | exact ⟨⟨1, by omega, rfl, (by have h := HOK.out; omega)⟩, by simp [intOf]⟩
        | exact ⟨⟨_, _, _, _, ⟨1, by omega, rfl, (by have h := HOK.out; omega)⟩, rfl, rfl, rfl, rfl⟩, by simp [intOf]⟩
        | exact ⟨⟨2, by omega, rfl, (by have h := HOK.out; omega)⟩, by simp [intOf]⟩
        | exact ⟨⟨_, _, _, _, ⟨2, by omega, rfl, (by have h := HOK.out; omega)⟩, rfl, rfl, rfl, rfl⟩, by simp [intOf]⟩
        | exact ⟨⟨3, by omega, rfl, (by have h := HOK.out; omega)⟩, by simp [intOf]⟩
        | exact ⟨⟨_, _, _, _, ⟨3, by omega, rfl, (by have h := HOK.out; omega)⟩, rfl, rfl, rfl, rfl⟩, by simp [intOf]⟩
        | exact ⟨⟨4, by omega, rfl, (by have h := HOK.out; omega)⟩, by simp [intOf]⟩
        | exact ⟨⟨_, _, _, _, ⟨4, by omega, rfl, (by have h := HOK.out; omega)⟩, rfl, rfl, rfl, rfl⟩, by simp [intOf]⟩
        | (go_ret; have h := HOK.out; exact ⟨retInt (Eq.symm (HA.out.trans (by first | rw [if_pos (by omega)] | rw [if_neg (by omega), if_pos (by omega)] | rw [if_neg (by omega), if_neg (by omega), if_pos (by omega)] | rw [if_neg (by omega), if_neg (by omega), if_neg (by omega), if_pos (by omega)] | rw [if_neg (by omega), if_neg (by omega), if_neg (by omega), if_neg (by omega)]))), (Below.refl _ _).alloc (Nat.le_refl _) _⟩)
set_option maxHeartbeats 8000000 in
theorem wireCheck_7 (w : World) (k : Nat) (k1 : 1 ≤ k) (k8 : k ≤ 8) (hg : 0 < w.heap.size) (hc : w.cell? ⟨0, k, none⟩ = some (.int .i64 7))
    (a0 a1 a2 a3 : Option Addr) (n y l v c0 c1 c2 c3 : Nat) (bn : n ≤ 9223372036854775807) (by' : y ≤ 9223372036854775807) (bl : l ≤ 9223372036854775807) (bv' : v ≤ 9223372036854775807) (hyc : y ≤ c1) (hyc' : c1 ≤ maxLen) (hlc : l ≤ c2) (hlc' : c2 ≤ maxLen) :
    Calls Tryd.prog 23 #[.agg #[.int .i64 k, .slice a0 n c0, .slice a1 y c1, .slice a2 l c2, .slice a3 v c3]] w (Tells w (.int .i64 (partsN 7 n y l v))) := by
  have HA : Hid (partsN 7 n y l v = if ¬ (1 ≤ n ∧ n ≤ 8) then 1 else if ¬ (1 ≤ y ∧ y ≤ 16) then 1 else if ¬ (1 ≤ l ∧ l ≤ 16) then 1 else if 32 < v then 1 else if 0 < v then 4 else 0) := by
    unfold Hid partsN
    rw [show (7 : Nat).testBit 0 = true from rfl, show (7 : Nat).testBit 1 = true from rfl, show (7 : Nat).testBit 2 = true from rfl, show (7 : Nat).testBit 3 = false from rfl]
    simp
  generalize partsN 7 n y l v = r at *
  have ix0 : ∀ (X : World) (n' y' l' v' : Nat), (Instr.index 56 (.agg #[.slice a0 n' c0, .slice a1 y' c1, .slice a2 l' c2, .slice a3 v' c3]) (.int .i64 0)).run Tryd.prog X = .ok (.slice a0 n' c0) X := fun _ _ _ _ _ => by kernel_rfl
  have ix1 : ∀ (X : World) (n' y' l' v' : Nat), (Instr.index 56 (.agg #[.slice a0 n' c0, .slice a1 y' c1, .slice a2 l' c2, .slice a3 v' c3]) (.int .i64 1)).run Tryd.prog X = .ok (.slice a1 y' c1) X := fun _ _ _ _ _ => by kernel_rfl
  have ix2 : ∀ (X : World) (n' y' l' v' : Nat), (Instr.index 56 (.agg #[.slice a0 n' c0, .slice a1 y' c1, .slice a2 l' c2, .slice a3 v' c3]) (.int .i64 2)).run Tryd.prog X = .ok (.slice a2 l' c2) X := fun _ _ _ _ _ => by kernel_rfl
  have ix3 : ∀ (X : World) (n' y' l' v' : Nat), (Instr.index 56 (.agg #[.slice a0 n' c0, .slice a1 y' c1, .slice a2 l' c2, .slice a3 v' c3]) (.int .i64 3)).run Tryd.prog X = .ok (.slice a3 v' c3) X := fun _ _ _ _ _ => by kernel_rfl
  by_cases q0 : 1 ≤ n ∧ n ≤ 8
  case neg =>
    have h0 := hid (nameN_bad q0)
    go_enter Tryd.func23, Tryd.ntmps23
    go_wp2_with (go_at_call 28; refine (name_len _ _ _ _).mono ?_; rw [h0.out]; rintro e w' ⟨rfl, rfl⟩)
    go_ret
    exact ⟨retInt (Eq.symm (HA.out.trans (by first | rw [if_pos (by omega)] | rw [if_neg (by omega), if_pos (by omega)] | rw [if_neg (by omega), if_neg (by omega), if_pos (by omega)] | rw [if_neg (by omega), if_neg (by omega), if_neg (by omega), if_pos (by omega)] | rw [if_neg (by omega), if_neg (by omega), if_neg (by omega), if_neg (by omega), if_pos (by omega)] | rw [if_neg (by omega), if_neg (by omega), if_neg (by omega), if_neg (by omega), if_neg (by omega)]))), (Below.refl _ _).alloc (Nat.le_refl _) _⟩
  by_cases q1 : 1 ≤ y ∧ y ≤ 16
  case neg =>
    have h0 := hid (nameN_ok q0.1 q0.2)
    have h1 := hid (checkN_bad q1)
    go_enter Tryd.func23, Tryd.ntmps23
    go_wp2_with (first | (go_at_call 28; refine (name_len _ _ _ _).mono ?_; rw [h0.out]; rintro e w' ⟨rfl, rfl⟩) | (go_at_call 29; refine (check_len _ _ _ _ hyc hyc').mono ?_; rw [h1.out]; rintro e w' ⟨rfl, rfl⟩))
    go_ret
    exact ⟨retInt (Eq.symm (HA.out.trans (by first | rw [if_pos (by omega)] | rw [if_neg (by omega), if_pos (by omega)] | rw [if_neg (by omega), if_neg (by omega), if_pos (by omega)] | rw [if_neg (by omega), if_neg (by omega), if_neg (by omega), if_pos (by omega)] | rw [if_neg (by omega), if_neg (by omega), if_neg (by omega), if_neg (by omega), if_pos (by omega)] | rw [if_neg (by omega), if_neg (by omega), if_neg (by omega), if_neg (by omega), if_neg (by omega)]))), (Below.refl _ _).alloc (Nat.le_refl _) _⟩
  have h0 := hid (nameN_ok q0.1 q0.2)
  have h1 := hid (checkN_ok q1.1 q1.2)
  by_cases q2 : 1 ≤ l ∧ l ≤ 16
  case neg =>
    have h2 := hid (checkN_bad q2)
    go_enter Tryd.func23, Tryd.ntmps23
    go_wp2_with fail
    refine (name_len _ _ _ _).mono ?_; rw [h0.out]; rintro e w' ⟨rfl, rfl⟩
    go_wp2_with fail
    refine (check_len _ _ _ _ hyc hyc').mono ?_; rw [h1.out]; rintro e w' ⟨rfl, rfl⟩
    go_wp2_with fail
    refine (check_len _ _ _ _ hlc hlc').mono ?_; rw [h2.out]; rintro e w' ⟨rfl, rfl⟩
    go_wp2_with fail
    go_ret
    exact ⟨retInt (Eq.symm (HA.out.trans (by first | rw [if_pos (by omega)] | rw [if_neg (by omega), if_pos (by omega)] | rw [if_neg (by omega), if_neg (by omega), if_pos (by omega)] | rw [if_neg (by omega), if_neg (by omega), if_neg (by omega), if_pos (by omega)] | rw [if_neg (by omega), if_neg (by omega), if_neg (by omega), if_neg (by omega), if_pos (by omega)] | rw [if_neg (by omega), if_neg (by omega), if_neg (by omega), if_neg (by omega), if_neg (by omega)]))), (Below.refl _ _).alloc (Nat.le_refl _) _⟩
  have h2 := hid (checkN_ok q2.1 q2.2)
  go_enter Tryd.func23, Tryd.ntmps23
  go_wp2_with fail
  refine (name_len _ _ _ _).mono ?_; rw [h0.out]; rintro e w' ⟨rfl, rfl⟩
  go_wp2_with fail
  refine (check_len _ _ _ _ hyc hyc').mono ?_; rw [h1.out]; rintro e w' ⟨rfl, rfl⟩
  go_wp2_with fail
  refine (check_len _ _ _ _ hlc hlc').mono ?_; rw [h2.out]; rintro e w' ⟨rfl, rfl⟩
  go_wp2_with fail
  · go_ret
    exact ⟨retInt (Eq.symm (HA.out.trans (by first | rw [if_pos (by omega)] | rw [if_neg (by omega), if_pos (by omega)] | rw [if_neg (by omega), if_neg (by omega), if_pos (by omega)] | rw [if_neg (by omega), if_neg (by omega), if_neg (by omega), if_pos (by omega)] | rw [if_neg (by omega), if_neg (by omega), if_neg (by omega), if_neg (by omega), if_pos (by omega)] | rw [if_neg (by omega), if_neg (by omega), if_neg (by omega), if_neg (by omega), if_neg (by omega)]))), (Below.refl _ _).alloc (Nat.le_refl _) _⟩
  · go_loop [58] (fun t => ∃ i : Nat, i ≤ 4 ∧ t = .int .i64 i ∧ (3 < i → v = 0)) (fun t => 4 - (intOf t).toNat)
    case atStart => exact ⟨0, by omega, rfl, by omega⟩
    case round =>
      obtain ⟨i, hi, rfl, hok⟩ := hrel
      have HOK := hid hok
      clear hok
      rcases (by omega : i = 0 ∨ i = 1 ∨ i = 2 ∨ i = 3 ∨ i = 4) with rfl | rfl | rfl | rfl | rfl
      all_goals
        go_wp2_with fail
      all_goals first
        | exact ⟨⟨1, by omega, rfl, (by have h := HOK.out; omega)⟩, by simp [intOf]⟩
        | exact ⟨⟨_, _, _, _, ⟨1, by omega, rfl, (by have h := HOK.out; omega)⟩, rfl, rfl, rfl, rfl⟩, by simp [intOf]⟩
        | exact ⟨⟨2, by omega, rfl, (by have h := HOK.out; omega)⟩, by simp [intOf]⟩
        | exact ⟨⟨_, _, _, _, ⟨2, by omega, rfl, (by have h := HOK.out; omega)⟩, rfl, rfl, rfl, rfl⟩, by simp [intOf]⟩
        | exact ⟨⟨3, by omega, rfl, (by have h := HOK.out; omega)⟩, by simp [intOf]⟩
        | exact ⟨⟨_, _, _, _, ⟨3, by omega, rfl, (by have h := HOK.out; omega)⟩, rfl, rfl, rfl, rfl⟩, by simp [intOf]⟩
        | exact ⟨⟨4, by omega, rfl, (by have h := HOK.out; omega)⟩, by simp [intOf]⟩
        | exact ⟨⟨_, _, _, _, ⟨4, by omega, rfl, (by have h := HOK.out; omega)⟩, rfl, rfl, rfl, rfl⟩, by simp [intOf]⟩
        | (go_ret; have h := HOK.out; exact ⟨retInt (Eq.symm (HA.out.trans (by first | rw [if_pos (by omega)] | rw [if_neg (by omega), if_pos (by omega)] | rw [if_neg (by omega), if_neg (by omega), if_pos (by omega)] | rw [if_neg (by omega), if_neg (by omega), if_neg (by omega), if_pos (by omega)] | rw [if_neg (by omega), if_neg (by omega), if_neg (by omega), if_neg (by omega), if_pos (by omega)] | rw [if_neg (by omega), if_neg (by omega), if_neg (by omega), if_neg (by omega), if_neg (by omega)]))), (Below.refl _ _).alloc (Nat.le_refl _) _⟩)
set_option maxHeartbeats 8000000 in
theorem wireCheck_11 (w : World) (k : Nat) (k1 : 1 ≤ k) (k8 : k ≤ 8) (hg : 0 < w.heap.size) (hc : w.cell? ⟨0, k, none⟩ = some (.int .i64 11))
    (a0 a1 a2 a3 : Option Addr) (n y l v c0 c1 c2 c3 : Nat) (bn : n ≤ 9223372036854775807) (by' : y ≤ 9223372036854775807) (bl : l ≤ 9223372036854775807) (bv' : v ≤ 9223372036854775807) (hyc : y ≤ c1) (hyc' : c1 ≤ maxLen) (hlc : l ≤ c2) (hlc' : c2 ≤ maxLen) :
    Calls Tryd.prog 23 #[.agg #[.int .i64 k, .slice a0 n c0, .slice a1 y c1, .slice a2 l c2, .slice a3 v c3]] w (Tells w (.int .i64 (partsN 11 n y l v))) := by
  have HA : Hid (partsN 11 n y l v = if ¬ (1 ≤ n ∧ n ≤ 8) then 1 else if ¬ (1 ≤ y ∧ y ≤ 16) then 1 else if 32 < v then 1 else if 0 < l then 4 else 0) := by
    unfold Hid partsN
    rw [show (11 : Nat).testBit 0 = true from rfl, show (11 : Nat).testBit 1 = true from rfl, show (11 : Nat).testBit 2 = false from rfl, show (11 : Nat).testBit 3 = true from rfl]
    simp
  generalize partsN 11 n y l v = r at *
  have ix0 : ∀ (X : World) (n' y' l' v' : Nat), (Instr.index 56 (.agg #[.slice a0 n' c0, .slice a1 y' c1, .slice a2 l' c2, .slice a3 v' c3]) (.int .i64 0)).run Tryd.prog X = .ok (.slice a0 n' c0) X := fun _ _ _ _ _ => by kernel_rfl
  have ix1 : ∀ (X : World) (n' y' l' v' : Nat), (Instr.index 56 (.agg #[.slice a0 n' c0, .slice a1 y' c1, .slice a2 l' c2, .slice a3 v' c3]) (.int .i64 1)).run Tryd.prog X = .ok (.slice a1 y' c1) X := fun _ _ _ _ _ => by kernel_rfl
  have ix2 : ∀ (X : World) (n' y' l' v' : Nat), (Instr.index 56 (.agg #[.slice a0 n' c0, .slice a1 y' c1, .slice a2 l' c2, .slice a3 v' c3]) (.int .i64 2)).run Tryd.prog X = .ok (.slice a2 l' c2) X := fun _ _ _ _ _ => by kernel_rfl
  have ix3 : ∀ (X : World) (n' y' l' v' : Nat), (Instr.index 56 (.agg #[.slice a0 n' c0, .slice a1 y' c1, .slice a2 l' c2, .slice a3 v' c3]) (.int .i64 3)).run Tryd.prog X = .ok (.slice a3 v' c3) X := fun _ _ _ _ _ => by kernel_rfl
  by_cases q0 : 1 ≤ n ∧ n ≤ 8
  case neg =>
    have h0 := hid (nameN_bad q0)
    go_enter Tryd.func23, Tryd.ntmps23
    go_wp2_with (go_at_call 28; refine (name_len _ _ _ _).mono ?_; rw [h0.out]; rintro e w' ⟨rfl, rfl⟩)
    go_ret
    exact ⟨retInt (Eq.symm (HA.out.trans (by first | rw [if_pos (by omega)] | rw [if_neg (by omega), if_pos (by omega)] | rw [if_neg (by omega), if_neg (by omega), if_pos (by omega)] | rw [if_neg (by omega), if_neg (by omega), if_neg (by omega), if_pos (by omega)] | rw [if_neg (by omega), if_neg (by omega), if_neg (by omega), if_neg (by omega)]))), (Below.refl _ _).alloc (Nat.le_refl _) _⟩
  by_cases q1 : 1 ≤ y ∧ y ≤ 16
  case neg =>
    have h0 := hid (nameN_ok q0.1 q0.2)
    have h1 := hid (checkN_bad q1)
    go_enter Tryd.func23, Tryd.ntmps23
    go_wp2_with (first | (go_at_call 28; refine (name_len _ _ _ _).mono ?_; rw [h0.out]; rintro e w' ⟨rfl, rfl⟩) | (go_at_call 29; refine (check_len _ _ _ _ hyc hyc').mono ?_; rw [h1.out]; rintro e w' ⟨rfl, rfl⟩))
    go_ret
    exact ⟨retInt (Eq.symm (HA.out.trans (by first | rw [if_pos (by omega)] | rw [if_neg (by omega), if_pos (by omega)] | rw [if_neg (by omega), if_neg (by omega), if_pos (by omega)] | rw [if_neg (by omega), if_neg (by omega), if_neg (by omega), if_pos (by omega)] | rw [if_neg (by omega), if_neg (by omega), if_neg (by omega), if_neg (by omega)]))), (Below.refl _ _).alloc (Nat.le_refl _) _⟩
  have h0 := hid (nameN_ok q0.1 q0.2)
  have h1 := hid (checkN_ok q1.1 q1.2)
  go_enter Tryd.func23, Tryd.ntmps23
  go_wp2_with fail
  refine (name_len _ _ _ _).mono ?_; rw [h0.out]; rintro e w' ⟨rfl, rfl⟩
  go_wp2_with fail
  refine (check_len _ _ _ _ hyc hyc').mono ?_; rw [h1.out]; rintro e w' ⟨rfl, rfl⟩
  go_wp2_with fail
  · go_ret
    exact ⟨retInt (Eq.symm (HA.out.trans (by first | rw [if_pos (by omega)] | rw [if_neg (by omega), if_pos (by omega)] | rw [if_neg (by omega), if_neg (by omega), if_pos (by omega)] | rw [if_neg (by omega), if_neg (by omega), if_neg (by omega), if_pos (by omega)] | rw [if_neg (by omega), if_neg (by omega), if_neg (by omega), if_neg (by omega)]))), (Below.refl _ _).alloc (Nat.le_refl _) _⟩
  · go_loop [58] (fun t => ∃ i : Nat, i ≤ 4 ∧ t = .int .i64 i ∧ (2 < i → l = 0)) (fun t => 4 - (intOf t).toNat)
    case atStart => exact ⟨0, by omega, rfl, by omega⟩
    case round =>
      obtain ⟨i, hi, rfl, hok⟩ := hrel
      have HOK := hid hok
      clear hok
      rcases (by omega : i = 0 ∨ i = 1 ∨ i = 2 ∨ i = 3 ∨ i = 4) with rfl | rfl | rfl | rfl | rfl
      all_goals
        go_wp2_with fail
      all_goals first
        | exact ⟨⟨1, by omega, rfl, (by have h := HOK.out; omega)⟩, by simp [intOf]⟩
        | exact ⟨⟨_, _, _, _, ⟨1, by omega, rfl, (by have h := HOK.out; omega)⟩, rfl, rfl, rfl, rfl⟩, by simp [intOf]⟩
        | exact ⟨⟨2, by omega, rfl, (by have h := HOK.out; omega)⟩, by simp [intOf]⟩
        | exact ⟨⟨_, _, _, _, ⟨2, by omega, rfl, (by have h := HOK.out; omega)⟩, rfl, rfl, rfl, rfl⟩, by simp [intOf]⟩
        | exact ⟨⟨3, by omega, rfl, (by have h := HOK.out; omega)⟩, by simp [intOf]⟩
        | exact ⟨⟨_, _, _, _, ⟨3, by omega, rfl, (by have h := HOK.out; omega)⟩, rfl, rfl, rfl, rfl⟩, by simp [intOf]⟩
        | exact ⟨⟨4, by omega, rfl, (by have h := HOK.out; omega)⟩, by simp [intOf]⟩
        | exact ⟨⟨_, _, _, _, ⟨4, by omega, rfl, (by have h := HOK.out; omega)⟩, rfl, rfl, rfl, rfl⟩, by simp [intOf]⟩
        | (go_ret; have h := HOK.out; exact ⟨retInt (Eq.symm (HA.out.trans (by first | rw [if_pos (by omega)] | rw [if_neg (by omega), if_pos (by omega)] | rw [if_neg (by omega), if_neg (by omega), if_pos (by omega)] | rw [if_neg (by omega), if_neg (by omega), if_neg (by omega), if_pos (by omega)] | rw [if_neg (by omega), if_neg (by omega), if_neg (by omega), if_neg (by omega)]))), (Below.refl _ _).alloc (Nat.le_refl _) _⟩)
/-- A request by value. -/
def ReqV (F : Fz) (v : Value) (kind : Int) (n y l x : List UInt8) : Prop := ∃ a b c d, v = .agg #[.int .i64 kind, a, b, c, d] ∧ Bs F a n ∧ Bs F b y ∧ Bs F c l ∧ Bs F d x
def wireN (k : Nat) (n y l v : Nat) : Int := partsN (hasL.getD k 0).toNat n y l v
theorem wireCheck_spec (F : Fz) (w : World) (v : Value) (k : Nat) (n y l x : List UInt8) (k1 : 1 ≤ k) (k8 : k ≤ 8) (hh : Has w) (hv : ReqV F v k n y l x) :
    Calls Tryd.prog 23 #[v] w (Tells w (.int .i64 (wireN k n.length y.length l.length x.length))) := by
  obtain ⟨a, b, c, d, rfl, ha, hb, hc, hd⟩ := hv
  obtain ⟨a0, c0, rfl, e1, e2⟩ := ha.shape
  obtain ⟨a1, c1, rfl, e3, e4⟩ := hb.shape
  obtain ⟨a2, c2, rfl, e5, e6⟩ := hc.shape
  obtain ⟨a3, c3, rfl, e7, e8⟩ := hd.shape
  have f2 := e2
  have f4 := e4
  have f6 := e6
  have f8 := e8
  unfold maxLen at f2 f4 f6 f8
  have hg : 0 < w.heap.size := World.block_lt_of_cell? w ⟨0, 0, none⟩ (hh 0 (by decide))
  have hk := hh k (by simp [hasL]; omega)
  unfold wireN
  rcases (by omega : k = 1 ∨ k = 2 ∨ k = 3 ∨ k = 4 ∨ k = 5 ∨ k = 6 ∨ k = 7 ∨ k = 8) with rfl | rfl | rfl | rfl | rfl | rfl | rfl | rfl
  · exact wireCheck_0 w 1 k1 k8 hg hk _ _ _ _ _ _ _ _ _ _ _ _ (by omega) (by omega) (by omega) (by omega) e3 e4 e5 e6
  · exact wireCheck_3 w 2 k1 k8 hg hk _ _ _ _ _ _ _ _ _ _ _ _ (by omega) (by omega) (by omega) (by omega) e3 e4 e5 e6
  · exact wireCheck_7 w 3 k1 k8 hg hk _ _ _ _ _ _ _ _ _ _ _ _ (by omega) (by omega) (by omega) (by omega) e3 e4 e5 e6
  · exact wireCheck_11 w 4 k1 k8 hg hk _ _ _ _ _ _ _ _ _ _ _ _ (by omega) (by omega) (by omega) (by omega) e3 e4 e5 e6
  · exact wireCheck_3 w 5 k1 k8 hg hk _ _ _ _ _ _ _ _ _ _ _ _ (by omega) (by omega) (by omega) (by omega) e3 e4 e5 e6
  · exact wireCheck_0 w 6 k1 k8 hg hk _ _ _ _ _ _ _ _ _ _ _ _ (by omega) (by omega) (by omega) (by omega) e3 e4 e5 e6
  · exact wireCheck_0 w 7 k1 k8 hg hk _ _ _ _ _ _ _ _ _ _ _ _ (by omega) (by omega) (by omega) (by omega) e3 e4 e5 e6
  · exact wireCheck_3 w 8 k1 k8 hg hk _ _ _ _ _ _ _ _ _ _ _ _ (by omega) (by omega) (by omega) (by omega) e3 e4 e5 e6
theorem wireCheck_kind (w : World) (kind : Int) (a b c d : Value) (hk : kind < 1 ∨ 8 < kind) :
    Calls Tryd.prog 23 #[.agg #[.int .i64 kind, a, b, c, d]] w (Tells w (.int .i64 5)) := by
  rcases hk with hk | hk
  · go_enter Tryd.func23, Tryd.ntmps23
    go_wp2_with fail
    go_ret
    exact ⟨rfl, (Below.refl _ _).alloc (Nat.le_refl _) _⟩
  · have h1 : ¬ kind < 1 := by omega
    go_enter Tryd.func23, Tryd.ntmps23
    go_wp2_with fail
    go_ret
    exact ⟨rfl, (Below.refl _ _).alloc (Nat.le_refl _) _⟩
end Go.Proofs.YticbfdhdipfjmaaDoor
