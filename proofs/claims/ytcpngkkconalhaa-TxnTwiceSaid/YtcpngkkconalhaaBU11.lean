/- Rules, plain laws and walks: X4 -/
import Derived.Test.YtcpngkkconalhaaBU10
namespace Go.Proofs.Ytcpngkkconalhaa
open Go.RowKit
set_option maxRecDepth 100000
set_option linter.unusedVariables false
set_option linter.unusedSimpArgs false
/-- A transaction and what was wrong. -/
def TxE (F : Fz) (u : Value) (t : Tx) (e : Int) : Prop := ∃ v, u = .tuple #[v, .int .i64 e] ∧ TxV F v t
theorem TxV.nil (F : Fz) : TxV F (.agg #[.int .i64 0, .slice none 0 0, .slice none 0 0]) nilX := ⟨none, 0, none, 0, rfl, Sl.nil _ _ _, Sl.nil _ _ _⟩
theorem idxE_some {α : Type} {l : List α} {g : α → Bool} (h : 0 ≤ idxE l g) : ∃ i : Nat, idxE l g = (i : Int) ∧ i < l.length ∧ l.findIdx? g = some i := by
  unfold idxE at *
  cases hf : l.findIdx? g with
  | none => rw [hf] at h; simp only at h; omega
  | some i =>
    refine ⟨i, rfl, ?_, rfl⟩
    exact (List.findIdx?_eq_some_iff_getElem.1 hf).1
theorem idxE_neg {α : Type} {l : List α} {g : α → Bool} (h : ¬ 0 ≤ idxE l g) : l.findIdx? g = none := by
  unfold idxE at h
  cases hf : l.findIdx? g with
  | none => rfl
  | some i => rw [hf] at h; simp only at h; omega
set_option maxHeartbeats 8000000 in
theorem txnOwn_spec (F : Fz) (w : World) (v : Value) (t : Tx) (hs : Sat w F) (hv : TxV F v t) (ht : TxOk t) :
    Calls Try.prog 74 #[v] w (GivesTx w F 83 27 t) := by
 obtain ⟨x0, y0, x1, y1, rfl, h0, h1⟩ := hv
 obtain ⟨_, _, e0, q0, q1⟩ := Sl.shape h0
 obtain ⟨_, _, e1, q2, q3⟩ := Sl.shape h1
 injection e0 with _ _ e0
 injection e1 with _ _ e1
 subst e0 e1
 unfold maxLen at q1 q3
 obtain ⟨i83, hi83, hz83, hs83, hb83⟩ := info_parts info_83
 have hnr := ht.nr
 have hwl : t.writes.length ≤ 100000 := Nat.le_trans ht.nw (by decide)
 have hws := fun r hr => (ht.writes r hr).small
 have S := St.start hs
 go_enter Try.func74, Try.ntmps74
 refine wp_seq_k (fun K1 hK1 => region_wl ?_)
 refine stNew S (v := fun n => .pointer (some ⟨n, 0, none⟩)) rfl (ex_box (v := (.agg #[(.int .i64 t.start), (.slice x0 t.reads.length y0), (.slice x1 t.writes.length y1)])) rfl) (fun n2 w3 S4 => ?_)
 simp only [pS, pN, pA, pC, pZ]
 have S4 : St w F w3 F [⟨n2, [(.int .i64 t.start), (.slice x0 t.reads.length y0), (.slice x1 t.writes.length y1)], 75⟩] [] := S4
 refine stNew S4 (v := fun n => .pointer (some ⟨n, 0, none⟩)) rfl (ex_alloc (zero_75 _)) (fun n5 w6 S7 => ?_)
 simp only [pS, pN, pA, pC, pZ]
 have S7 : St w F w6 F [⟨n5, [(.int .i64 0), (.slice none 0 0), (.slice none 0 0)], 75⟩, ⟨n2, [(.int .i64 t.start), (.slice x0 t.reads.length y0), (.slice x1 t.writes.length y1)], 75⟩] [] := S7
 refine wl_nil (hK1 _ _ ?_)
 refine wp_seq_k (fun K8 hK8 => ?_)
 refine region_gw F 7 [(4, .rel (MadeO w6 F 4 WrC 27 t.writes) (MadeO.stable WrC.mono _ _ _ _ _)), (5, .rel (fun u w => ∃ xa11 xc12, u = (.agg #[(.int .i64 t.start), (.slice none 0 0), (.slice xa11 t.writes.length xc12)]) ∧ MadeO w6 F 4 WrC 27 t.writes (.slice xa11 t.writes.length xc12) w) (fun u w w1 h hb => by obtain ⟨a, c, e, h⟩ := h; exact ⟨a, c, e, MadeO.stable WrC.mono _ _ _ _ _ _ _ _ h hb⟩)), (6, .rel (NewAt w6 [(.int .i64 0), (.slice none 0 0), (.slice none 0 0)] 75) (NewAt.stable _ _ _))] (by kernel_rfl) (by kernel_rfl) ?_
 simp only [List.take_succ_cons, List.take_zero]
 refine gw_pure rfl rfl (.pointer (some ⟨n2, 0, none⟩)) (fun w9 hCw9 => pureAt_of (ex_field (q := ⟨n2, 0, none⟩) rfl (fa_75_0 _ _))) ?_
 simp only [pS, pN, pA, pC, pZ]
 refine gw_pure rfl rfl (.int .i64 t.start) (fun w9 hCw9 => pureAt_of (ex_load rfl (load1 (nagg_3 _) (St.cell (St.tells S7 hCw9) (i := 1) rfl rfl)))) ?_
 simp only [pS, pN, pA, pC, pZ]
 refine gw_pure rfl rfl (.pointer (some ⟨n2, 2, none⟩)) (fun w9 hCw9 => pureAt_of (ex_field (q := ⟨n2, 2, none⟩) rfl (fa_75_2 _ _))) ?_
 simp only [pS, pN, pA, pC, pZ]
 refine gw_pure rfl rfl (.slice x1 t.writes.length y1) (fun w9 hCw9 => pureAt_of (ex_load rfl (load1 (nagg_44 _) (St.cell (St.tells S7 hCw9) (i := 1) rfl rfl)))) ?_
 simp only [pS, pN, pA, pC, pZ]
 refine gw_rel rfl rfl (fun w9 hCw9 hF => does_call (ex_fn (vs := #[(.slice x1 t.writes.length y1)]) (map1 rfl) rfl (ent_75 _ _)) (call_madeO S7.sat hCw9 (txnWritesO_spec _ _ _ t.writes ((St.tells S7 hCw9)).sat h1 hwl hws))) (fun v10 => ?_)
 simp only [pS, pN, pA, pC, pZ]
 refine gw_rel rfl rfl (fun w9 hCw9 hF_ => ?_) (fun v13 => ?_)
 ·obtain ⟨Fo, go, ho⟩ := hF_.getR 4 (by kernel_rfl) rfl rfl
  obtain ⟨xa11, xc12, rfl, _, _⟩ := ho.shape
  exact does_val (ex_build (bmap2 rfl rfl) (by kernel_rfl)) ⟨xa11, xc12, rfl, Fo, go, ho⟩ (Below.refl _ _)
 simp only [pS, pN, pA, pC, pZ]
 refine gw_rel rfl rfl (fun w9 hCw9 _ => does_alloc (cs := [(.int .i64 0), (.slice none 0 0), (.slice none 0 0)]) (zero_75 _) rfl hCw9) (fun v14 => ?_)
 simp only [pS, pN, pA, pC, pZ]
 refine gw_nil ?_
 intro w15 hC17 hF18
 obtain ⟨n19, rfl, hn20, hb21⟩ := hF18.getR 6 rfl rfl
 have hnbn19 : ∀ u ∈ [(.int .i64 0), (.slice none 0 0), (.slice none 0 0)], ∀ x, u ≠ bv x := by intro u hu x; simp only [List.mem_cons, List.not_mem_nil, or_false] at hu; rcases hu with rfl | rfl | rfl <;> (unfold bv; simp)
 obtain ⟨xa11, xc12, rfl, F22, g23, ho24⟩ := hF18.getR 5 rfl rfl
 have S25 := St.addBlkRow (hR := WrC.mono) (cs := [(.int .i64 0), (.slice none 0 0), (.slice none 0 0)]) S7 g23 ho24 hn20 hb21 (by decide) (WrC.dropF g23.sat hb21 hnbn19)
 have le26 : Le _ _ := (g23.dropF S7.sat hn20).le S7.sat
 generalize dropF F22 n19 = F27 at *
 clear hF18
 simp only [List.drop_succ_cons, List.drop_zero]
 have S25 : St w F w15 F27 [⟨n19, [(.int .i64 0), (.slice none 0 0), (.slice none 0 0)], 75⟩, ⟨n5, [(.int .i64 0), (.slice none 0 0), (.slice none 0 0)], 75⟩, ⟨n2, [(.int .i64 t.start), (.slice x0 t.reads.length y0), (.slice x1 t.writes.length y1)], 75⟩] [ownP 4 WrC WrC.mono 27 w.heap.size (.slice xa11 t.writes.length xc12) t.writes] := S25
 refine stStore (i := 0) (v := (.agg #[(.int .i64 t.start), (.slice none 0 0), (.slice xa11 t.writes.length xc12)])) S25 rfl rfl rfl rfl (size_75) (allc3 rfl rfl rfl) (Nat.le_of_ble_eq_true rfl) (fun w28 S29 => ?_)
 simp only [pS, pN, pA, pC, pZ]
 have S29 : St w F w28 F27 [⟨n19, [(.int .i64 t.start), (.slice none 0 0), (.slice xa11 t.writes.length xc12)], 75⟩, ⟨n5, [(.int .i64 0), (.slice none 0 0), (.slice none 0 0)], 75⟩, ⟨n2, [(.int .i64 t.start), (.slice x0 t.reads.length y0), (.slice x1 t.writes.length y1)], 75⟩] [ownP 4 WrC WrC.mono 27 w.heap.size (.slice xa11 t.writes.length xc12) t.writes] := S29
 refine wl_nil (hK8 _ _ ?_)
 refine wp_seq_k (fun K30 hK30 => ?_)
 refine wp_seq_k (fun K31 hK31 => region_wl ?_)
 refine do_ rfl (.pointer (some ⟨n2, 1, none⟩)) (ex_field (q := ⟨n2, 1, none⟩) rfl (fa_75_1 _ _)) ?_
 simp only [pS, pN, pA, pC, pZ]
 refine do_ rfl (.slice x0 t.reads.length y0) (ex_load rfl (load1 (nagg_73 _) (St.cell S29 (i := 2) rfl rfl))) ?_
 simp only [pS, pN, pA, pC, pZ]
 refine do_ rfl (.int .i64 ((t.reads.length : Nat) : Int)) (ex_len Try.underlying73 rfl) ?_
 simp only [pS, pN, pA, pC, pZ]
 refine do_ rfl (.int .i64 0) (ex_move _) ?_
 simp only [pS, pN, pA, pC, pZ]
 refine wl_nil (hK31 _ _ ?_)
 refine wp_block ?_
 have S32 := St.addNil S29 4 RdC RdC.mono 83 w.heap.size
 refine wp_loop_g (fun mm aa w35 => ∃ (k : Nat) (v : Value) (F33 : Fz) (u34 : Nat → Value), mm = t.reads.length - k ∧ u34 = slots aa ∧ aa = ⟨#[(.agg #[(.int .i64 t.start), (.slice x0 t.reads.length y0), (.slice x1 t.writes.length y1)]), (.pointer (some ⟨n2, 0, none⟩)), (.pointer (some ⟨n5, 0, none⟩)), (.pointer (some ⟨n19, 0, none⟩)), undef, (u34 5), (.pointer (some ⟨n2, 0, none⟩)), (.int .i64 t.start), (.pointer (some ⟨n2, 2, none⟩)), (.slice x1 t.writes.length y1), v10, (.agg #[(.int .i64 t.start), (.slice none 0 0), (.slice xa11 t.writes.length xc12)]), (.pointer (some ⟨n2, 1, none⟩)), (.slice x0 t.reads.length y0), (.int .i64 ((t.reads.length : Nat) : Int)), (.int .i64 ((k : Nat) : Int)), (u34 16), (u34 17), (u34 18), (u34 19), (u34 20), (u34 21), (u34 22), (u34 23), (u34 24), (u34 25), (u34 26), undef], []⟩ ∧ St w F w35 F33 [⟨n19, [(.int .i64 t.start), v, (.slice xa11 t.writes.length xc12)], 75⟩, ⟨n5, [(.int .i64 0), (.slice none 0 0), (.slice none 0 0)], 75⟩, ⟨n2, [(.int .i64 t.start), (.slice x0 t.reads.length y0), (.slice x1 t.writes.length y1)], 75⟩] [ownP 4 RdC RdC.mono 83 w.heap.size v (t.reads.take k), ownP 4 WrC WrC.mono 27 w.heap.size (.slice xa11 t.writes.length xc12) t.writes] ∧ Le F27 F33 ∧ (k ≤ t.reads.length)) _ ⟨0, (.slice none 0 0), F27, _, rfl, rfl, rfl, S32, Le.refl _, (by omega)⟩ ?_
 rintro m36 a37 w38 ⟨k, v, F33, u34, rfl, -, rfl, S39, le40, hk⟩ K41 hK41
 refine wp_seq_k (fun K42 hK42 => region_wl ?_)
 by_cases hc16 : k < t.reads.length
 ·refine do_ rfl (.bool true) (ex_lss (m := ((k : Nat) : Int)) (n := ((t.reads.length : Nat) : Int)) (b := true) rfl rfl (decide_eq_true (by omega))) ?_
  simp only [pS, pN, pA, pC, pZ]
  refine wl_nil (hK42 _ _ ?_)
  refine wp_seq_k (fun K43 hK43 => ?_)
  refine wp_cond_true rfl ?_
  refine wp_skip ?_
  refine hK43 _ _ ?_
  refine wp_seq_k (fun K44 hK44 => ?_)
  refine wp_block ?_
  refine wp_seq_k (fun K45 hK45 => ?_)
  obtain ⟨p, hp⟩ : ∃ p, t.reads[k]? = some p := ⟨t.reads[k], List.getElem?_eq_getElem hc16⟩
  obtain ⟨hb0, hb1, hb2⟩ := (ht.reads p (List.mem_of_getElem? hp)).small
  have htk : (t.reads.take k).length = k := by rw [List.length_take]; omega
  obtain ⟨b46, o47, ha48, xa50, xc51, xa54, xc55, xa59, xc60, c49, c53, c57, c58, r52, r56, r61⟩ := Rds.get (h0.mono (le26.trans le40)) hp
  refine region_wl ?_
  refine do_ rfl (.pointer (some ⟨b46, o47 + k * 4, none⟩)) (ex_at (i := k) (sz := 4) Try.underlying73 (sizeof_83 _) rfl ha48 rfl (by omega) rfl) ?_
  simp only [pS, pN, pA, pC, pZ]
  refine do_ rfl (.agg #[(.slice xa50 p.name.length xc51), (.slice xa54 p.key.length xc55), (.bool p.wide), (.slice xa59 p.last.length xc60)]) (ex_load rfl (loadN (cs := [(.slice xa50 p.name.length xc51), (.slice xa54 p.key.length xc55), (.bool p.wide), (.slice xa59 p.last.length xc60)]) Try.underlying83 rfl (size_83) (range4 (St.fz S39 c49) (St.fz S39 c53) (St.fz S39 c57) (St.fz S39 c58)))) ?_
  simp only [pS, pN, pA, pC, pZ]
  refine stNew S39 (v := fun n => .pointer (some ⟨n, 0, none⟩)) rfl (ex_alloc (zero_83 _)) (fun n62 w63 S64 => ?_)
  simp only [pS, pN, pA, pC, pZ]
  have S64 : St w F w63 F33 [⟨n62, [(.slice none 0 0), (.slice none 0 0), (.bool false), (.slice none 0 0)], 83⟩, ⟨n19, [(.int .i64 t.start), v, (.slice xa11 t.writes.length xc12)], 75⟩, ⟨n5, [(.int .i64 0), (.slice none 0 0), (.slice none 0 0)], 75⟩, ⟨n2, [(.int .i64 t.start), (.slice x0 t.reads.length y0), (.slice x1 t.writes.length y1)], 75⟩] [ownP 4 RdC RdC.mono 83 w.heap.size v (t.reads.take k), ownP 4 WrC WrC.mono 27 w.heap.size (.slice xa11 t.writes.length xc12) t.writes] := S64
  refine stStore (i := 0) (v := (.agg #[(.slice xa50 p.name.length xc51), (.slice xa54 p.key.length xc55), (.bool p.wide), (.slice xa59 p.last.length xc60)])) S64 rfl rfl rfl rfl (size_83) (allc4 rfl rfl rfl rfl) (Nat.le_of_ble_eq_true rfl) (fun w65 S66 => ?_)
  simp only [pS, pN, pA, pC, pZ]
  have S66 : St w F w65 F33 [⟨n62, [(.slice xa50 p.name.length xc51), (.slice xa54 p.key.length xc55), (.bool p.wide), (.slice xa59 p.last.length xc60)], 83⟩, ⟨n19, [(.int .i64 t.start), v, (.slice xa11 t.writes.length xc12)], 75⟩, ⟨n5, [(.int .i64 0), (.slice none 0 0), (.slice none 0 0)], 75⟩, ⟨n2, [(.int .i64 t.start), (.slice x0 t.reads.length y0), (.slice x1 t.writes.length y1)], 75⟩] [ownP 4 RdC RdC.mono 83 w.heap.size v (t.reads.take k), ownP 4 WrC WrC.mono 27 w.heap.size (.slice xa11 t.writes.length xc12) t.writes] := S66
  refine wl_nil (hK45 _ _ ?_)
  refine region_gw F33 5 [(3, .made (fun F' u => RdV F' u p)), (4, .made (fun F' u => Rds F' u [p]))] (by kernel_rfl) (by kernel_rfl) ?_
  simp only [List.take_succ_cons, List.take_zero]
  refine gw_pure rfl rfl (.pointer (some ⟨n19, 1, none⟩)) (fun w67 hCw67 => pureAt_of (ex_field (q := ⟨n19, 1, none⟩) rfl (fa_75_1 _ _))) ?_
  simp only [pS, pN, pA, pC, pZ]
  refine gw_pure rfl rfl v (fun w67 hCw67 => pureAt_of (ex_load rfl (load1 (nagg_73 _) (St.cell (St.tells S66 hCw67) (i := 1) rfl rfl)))) ?_
  simp only [pS, pN, pA, pC, pZ]
  refine gw_pure rfl rfl (.agg #[(.slice xa50 p.name.length xc51), (.slice xa54 p.key.length xc55), (.bool p.wide), (.slice xa59 p.last.length xc60)]) (fun w67 hCw67 => pureAt_of (ex_load rfl (loadN (cs := [(.slice xa50 p.name.length xc51), (.slice xa54 p.key.length xc55), (.bool p.wide), (.slice xa59 p.last.length xc60)]) Try.underlying83 rfl (size_83) (St.range (St.tells S66 hCw67) (i := 0) rfl 0 [(.slice xa50 p.name.length xc51), (.slice xa54 p.key.length xc55), (.bool p.wide), (.slice xa59 p.last.length xc60)] (sub_range 0 rfl))))) ?_
  simp only [pS, pN, pA, pC, pZ]
  refine gw_rel rfl rfl (fun w67 hCw67 hF => does_call (ex_fn (vs := #[(.agg #[(.slice xa50 p.name.length xc51), (.slice xa54 p.key.length xc55), (.bool p.wide), (.slice xa59 p.last.length xc60)])]) (map1 rfl) rfl (ent_83 _ _)) (call_made S66.sat hCw67 (read_spec _ _ _ p ((St.tells S66 hCw67)).sat ⟨_, _, _, _, _, _, rfl, r52, r56, r61⟩ hb0 hb1 hb2))) (fun v68 => ?_)
  simp only [pS, pN, pA, pC, pZ]
  refine gw_rel rfl rfl (fun w67 hCw67 hF_ => ?_) (fun v81 => ?_)
  ·obtain ⟨F78, g79, R80⟩ := hF_.get 3 (by kernel_rfl) rfl rfl
   obtain ⟨xa69, xc70, xa72, xc73, xa75, xc76, rfl, r71, r74, r77⟩ := R80
   exact does_lit (k := 4) (R := RdC) (hR := RdC.mono) (p := p) (cs := [.slice xa69 _ xc70, .slice xa72 _ xc73, _, .slice xa75 _ xc76]) (E := 83) g79 ⟨_, _, _, _, rfl, r71, r74, rfl, r77⟩ rfl (ex_lit (E := 83) (cells := #[.slice xa69 _ xc70, .slice xa72 _ xc73, _, .slice xa75 _ xc76]) (bmap1 rfl) (fun w => by kernel_rfl))
  simp only [pS, pN, pA, pC, pZ]
  refine gw_nil ?_
  intro w82 hC84 hF85
  obtain ⟨F86, g87, R88⟩ := hF85.get 4 rfl rfl
  have S83 := St.gives S66 g87
  have le90 : Le _ _ := g87.le S66.sat
  have R91 := R88
  generalize F86 = F89 at *
  obtain ⟨xa92, xc93, rfl, _⟩ := Sl.shape R91
  clear hF85
  simp only [List.drop_succ_cons, List.drop_zero]
  refine stAppendS (r := 0) (u := (.slice xa92 [p].length xc93)) S83 rfl i83 (.agg #[(.slice none 0 0), (.slice none 0 0), (.bool false), (.slice none 0 0)]) 80 Try.underlying73 hi83 hz83 hs83 hb83 rfl (by decide) rfl rfl rfl (Sl.toW R91 (S83).sat) (fun F cs p h => RdC.oneCell h) (Nat.le_refl _) S83.gr.below.size (by unfold maxLen; simp only [List.length_take, List.length_cons, List.length_nil]; omega) (by simp only [List.length_take, List.length_cons, List.length_nil]; omega) ?_
  intro v94 w95 S96 hn97
  simp only [pS, pN, pA, pC, pZ]
  have S96 : St w F w95 F89 [⟨n62, [(.slice xa50 p.name.length xc51), (.slice xa54 p.key.length xc55), (.bool p.wide), (.slice xa59 p.last.length xc60)], 83⟩, ⟨n19, [(.int .i64 t.start), v, (.slice xa11 t.writes.length xc12)], 75⟩, ⟨n5, [(.int .i64 0), (.slice none 0 0), (.slice none 0 0)], 75⟩, ⟨n2, [(.int .i64 t.start), (.slice x0 t.reads.length y0), (.slice x1 t.writes.length y1)], 75⟩] [ownP 4 RdC RdC.mono 83 w.heap.size v94 ((t.reads.take k) ++ [p]), ownP 4 WrC WrC.mono 27 w.heap.size (.slice xa11 t.writes.length xc12) t.writes] := S96
  have hpe : (⟨p.name, p.key, p.wide, p.last⟩ : Rd) = p := rfl
  rw [← take_snoc hp] at S96
  obtain ⟨a98, cap99, rfl, h100, h101⟩ := (S96.own (i := 0) rfl).shape
  unfold maxLen at h101
  refine do_ rfl (.pointer (some ⟨n19, 1, none⟩)) (ex_field (q := ⟨n19, 1, none⟩) rfl (fa_75_1 _ _)) ?_
  simp only [pS, pN, pA, pC, pZ]
  refine stStore (i := 1) (v := (.slice a98 (t.reads.take (k + 1)).length cap99)) S96 rfl rfl rfl rfl (size_73) (allc1 rfl) (Nat.le_of_ble_eq_true rfl) (fun w102 S103 => ?_)
  simp only [pS, pN, pA, pC, pZ]
  have S103 : St w F w102 F89 [⟨n62, [(.slice xa50 p.name.length xc51), (.slice xa54 p.key.length xc55), (.bool p.wide), (.slice xa59 p.last.length xc60)], 83⟩, ⟨n19, [(.int .i64 t.start), (.slice a98 (t.reads.take (k + 1)).length cap99), (.slice xa11 t.writes.length xc12)], 75⟩, ⟨n5, [(.int .i64 0), (.slice none 0 0), (.slice none 0 0)], 75⟩, ⟨n2, [(.int .i64 t.start), (.slice x0 t.reads.length y0), (.slice x1 t.writes.length y1)], 75⟩] [ownP 4 RdC RdC.mono 83 w.heap.size (.slice a98 (t.reads.take (k + 1)).length cap99) (t.reads.take (k + 1)), ownP 4 WrC WrC.mono 27 w.heap.size (.slice xa11 t.writes.length xc12) t.writes] := S103
  refine wl_nil (hK44 _ _ ?_)
  refine region_wl ?_
  refine do_ rfl (.int .i64 (((k + 1) : Nat) : Int)) (ex_add (m := ((k : Nat) : Int)) (n := (1 : Int)) (r := (((k + 1) : Nat) : Int)) rfl rfl (by omega) (by omega) (by omega)) ?_
  simp only [pS, pN, pA, pC, pZ]
  refine do_ rfl (.int .i64 (((k + 1) : Nat) : Int)) (ex_move _) ?_
  simp only [pS, pN, pA, pC, pZ]
  refine wl_nil ?_
  have S103 := St.drop S103 (L' := [⟨n19, [(.int .i64 t.start), (.slice a98 (t.reads.take (k + 1)).length cap99), (.slice xa11 t.writes.length xc12)], 75⟩, ⟨n5, [(.int .i64 0), (.slice none 0 0), (.slice none 0 0)], 75⟩, ⟨n2, [(.int .i64 t.start), (.slice x0 t.reads.length y0), (.slice x1 t.writes.length y1)], 75⟩]) (.cons _ (List.Sublist.refl _))
  exact hK41 _ _ _ (by omega) ⟨(k + 1), (.slice a98 (t.reads.take (k + 1)).length cap99), F89, _, rfl, rfl, rfl, S103, (le40.trans le90), (by omega)⟩
 ·refine do_ rfl (.bool false) (ex_lss (m := ((k : Nat) : Int)) (n := ((t.reads.length : Nat) : Int)) (b := false) rfl rfl (decide_eq_false (by omega))) ?_
  simp only [pS, pN, pA, pC, pZ]
  refine wl_nil (hK42 _ _ ?_)
  refine wp_seq_k (fun K104 hK104 => ?_)
  refine wp_cond_false rfl ?_
  refine wp_exit ?_
  refine hK30 _ _ ?_
  refine wp_seq_k (fun K105 hK105 => ?_)
  have hend : t.reads.take k = t.reads := List.take_of_length_le (by omega)
  rw [hend] at S39
  obtain ⟨a106, cap107, rfl, h108, h109⟩ := (S39.own (i := 0) rfl).shape
  unfold maxLen at h109
  refine region_wl ?_
  refine do_ rfl (.agg #[(.int .i64 t.start), (.slice a106 t.reads.length cap107), (.slice xa11 t.writes.length xc12)]) (ex_load rfl (loadN (cs := [(.int .i64 t.start), (.slice a106 t.reads.length cap107), (.slice xa11 t.writes.length xc12)]) Try.underlying75 rfl (size_75) (St.range S39 (i := 0) rfl 0 [(.int .i64 t.start), (.slice a106 t.reads.length cap107), (.slice xa11 t.writes.length xc12)] (sub_range 0 rfl)))) ?_
  simp only [pS, pN, pA, pC, pZ]
  refine stStore (i := 1) (v := (.agg #[(.int .i64 t.start), (.slice a106 t.reads.length cap107), (.slice xa11 t.writes.length xc12)])) S39 rfl rfl rfl rfl (size_75) (allc3 rfl rfl rfl) (Nat.le_of_ble_eq_true rfl) (fun w110 S111 => ?_)
  simp only [pS, pN, pA, pC, pZ]
  have S111 : St w F w110 F33 [⟨n19, [(.int .i64 t.start), (.slice a106 t.reads.length cap107), (.slice xa11 t.writes.length xc12)], 75⟩, ⟨n5, [(.int .i64 t.start), (.slice a106 t.reads.length cap107), (.slice xa11 t.writes.length xc12)], 75⟩, ⟨n2, [(.int .i64 t.start), (.slice x0 t.reads.length y0), (.slice x1 t.writes.length y1)], 75⟩] [ownP 4 RdC RdC.mono 83 w.heap.size (.slice a106 t.reads.length cap107) t.reads, ownP 4 WrC WrC.mono 27 w.heap.size (.slice xa11 t.writes.length xc12) t.writes] := S111
  refine wl_nil (hK105 _ _ ?_)
  refine wp_ret ?_
  (try simp only [Exit.then, Exit.inBlock, ↓reduceIte, Nat.reduceEqDiff])
  refine bodyPost_ret (v := (.agg #[(.int .i64 t.start), (.slice a106 t.reads.length cap107), (.slice xa11 t.writes.length xc12)])) ?_ rfl ?_
  ·exact res_c rfl ⟨_, rfl, loadN (cs := [(.int .i64 t.start), (.slice a106 t.reads.length cap107), (.slice xa11 t.writes.length xc12)]) Try.underlying75 rfl (size_75) (St.range S111 (i := 1) rfl 0 [(.int .i64 t.start), (.slice a106 t.reads.length cap107), (.slice xa11 t.writes.length xc12)] (sub_range 0 rfl))⟩
  ·exact ⟨_, _, _, rfl, S111.gr, S111.own (i := 0) rfl, S111.own (i := 1) rfl⟩
set_option maxHeartbeats 8000000 in
theorem txnNote_spec (F : Fz) (w : World) (v u : Value) (t : Tx) (r : Rd) (hs : Sat w F) (hv : TxV F v t) (hu : RdV F u r) (hbw : ∀ r ∈ t.writes, r.name.length ≤ 100000 ∧ r.key.length ≤ 100000 ∧ r.value.length ≤ 100000) :
    Calls Try.prog 46 #[v, u] w (Gives w F fun F' u => TxE F' u (noteT t r) (noteE t r)) := by
 obtain ⟨x0, y0, x1, y1, rfl, h0, h1⟩ := hv
 obtain ⟨_, _, e0, q0, q1⟩ := Sl.shape h0
 obtain ⟨_, _, e1, q2, q3⟩ := Sl.shape h1
 injection e0 with _ _ e0
 injection e1 with _ _ e1
 subst e0 e1
 unfold maxLen at q1 q3
 obtain ⟨z0, z1, z2, z3, z4, z5, rfl, k0, k1, k3⟩ := hu
 obtain ⟨i83, hi83, hz83, hs83, hb83⟩ := info_parts info_83
 have S := St.start hs
 go_enter Try.func46, Try.ntmps46
 refine wp_seq_k (fun K1 hK1 => region_wl ?_)
 refine stNew S (v := fun n => .pointer (some ⟨n, 0, none⟩)) rfl (ex_box (v := (.agg #[(.int .i64 t.start), (.slice x0 t.reads.length y0), (.slice x1 t.writes.length y1)])) rfl) (fun n2 w3 S4 => ?_)
 simp only [pS, pN, pA, pC, pZ]
 have S4 : St w F w3 F [⟨n2, [(.int .i64 t.start), (.slice x0 t.reads.length y0), (.slice x1 t.writes.length y1)], 75⟩] [] := S4
 refine stNew S4 (v := fun n => .pointer (some ⟨n, 0, none⟩)) rfl (ex_box (v := (.agg #[(.slice z0 r.name.length z1), (.slice z2 r.key.length z3), (.bool r.wide), (.slice z4 r.last.length z5)])) rfl) (fun n5 w6 S7 => ?_)
 simp only [pS, pN, pA, pC, pZ]
 have S7 : St w F w6 F [⟨n5, [(.slice z0 r.name.length z1), (.slice z2 r.key.length z3), (.bool r.wide), (.slice z4 r.last.length z5)], 83⟩, ⟨n2, [(.int .i64 t.start), (.slice x0 t.reads.length y0), (.slice x1 t.writes.length y1)], 75⟩] [] := S7
 refine stNew S7 (v := fun n => .pointer (some ⟨n, 0, none⟩)) rfl (ex_alloc (zero_75 _)) (fun n8 w9 S10 => ?_)
 simp only [pS, pN, pA, pC, pZ]
 have S10 : St w F w9 F [⟨n8, [(.int .i64 0), (.slice none 0 0), (.slice none 0 0)], 75⟩, ⟨n5, [(.slice z0 r.name.length z1), (.slice z2 r.key.length z3), (.bool r.wide), (.slice z4 r.last.length z5)], 83⟩, ⟨n2, [(.int .i64 t.start), (.slice x0 t.reads.length y0), (.slice x1 t.writes.length y1)], 75⟩] [] := S10
 refine do_ rfl (.int .i64 0) (ex_assign _) ?_
 simp only [pS, pN, pA, pC, pZ]
 refine wl_nil (hK1 _ _ ?_)
 refine wp_seq_k (fun K11 hK11 => ?_)
 refine wp_seq_k (fun K12 hK12 => region_wl ?_)
 refine do_ rfl (.agg #[(.int .i64 t.start), (.slice x0 t.reads.length y0), (.slice x1 t.writes.length y1)]) (ex_load rfl (loadN (cs := [(.int .i64 t.start), (.slice x0 t.reads.length y0), (.slice x1 t.writes.length y1)]) Try.underlying75 rfl (size_75) (St.range S10 (i := 2) rfl 0 [(.int .i64 t.start), (.slice x0 t.reads.length y0), (.slice x1 t.writes.length y1)] (sub_range 0 rfl)))) ?_
 simp only [pS, pN, pA, pC, pZ]
 refine stTells (v := (.int .i64 (txE t))) S10 rfl (ex_fn (vs := #[(.agg #[(.int .i64 t.start), (.slice x0 t.reads.length y0), (.slice x1 t.writes.length y1)])]) (map1 rfl) rfl (ent_51 _ _)) (txnCheck_spec _ _ _ t (S10).sat ⟨_, _, _, _, rfl, h0, h1⟩ hbw) (fun w13 S14 => ?_)
 simp only [pS, pN, pA, pC, pZ]
 refine do_ rfl (.int .i64 (txE t)) (ex_assign _) ?_
 simp only [pS, pN, pA, pC, pZ]
 refine wl_nil (hK12 _ _ ?_)
 refine wp_seq_k (fun K15 hK15 => region_wl ?_)
 refine do_ rfl (.int .i64 (txE t)) (ex_move _) ?_
 simp only [pS, pN, pA, pC, pZ]
 by_cases hc12 : (txE t) = (0 : Int)
 ·refine do_ rfl (.bool false) (ex_neq (m := (txE t)) (n := (0 : Int)) (b := false) rfl rfl (bne_eq_false_iff_eq.2 (by omega))) ?_
  simp only [pS, pN, pA, pC, pZ]
  refine wl_nil (hK15 _ _ ?_)
  refine wp_cond_false rfl ?_
  refine wp_skip ?_
  refine hK11 _ _ ?_
  refine wp_seq_k (fun K16 hK16 => ?_)
  refine wp_seq_k (fun K17 hK17 => ?_)
  have ht : TxOk t := txE_ok.1 (by omega)
  have hnr := ht.nr
  refine region_wl ?_
  refine do_ rfl (.agg #[(.slice z0 r.name.length z1), (.slice z2 r.key.length z3), (.bool r.wide), (.slice z4 r.last.length z5)]) (ex_load rfl (loadN (cs := [(.slice z0 r.name.length z1), (.slice z2 r.key.length z3), (.bool r.wide), (.slice z4 r.last.length z5)]) Try.underlying83 rfl (size_83) (St.range S14 (i := 1) rfl 0 [(.slice z0 r.name.length z1), (.slice z2 r.key.length z3), (.bool r.wide), (.slice z4 r.last.length z5)] (sub_range 0 rfl)))) ?_
  simp only [pS, pN, pA, pC, pZ]
  refine stTells (v := (.int .i64 (rdE r))) S14 rfl (ex_fn (vs := #[(.agg #[(.slice z0 r.name.length z1), (.slice z2 r.key.length z3), (.bool r.wide), (.slice z4 r.last.length z5)])]) (map1 rfl) rfl (ent_79 _ _)) (shape_spec _ _ _ r (S14).sat ⟨_, _, _, _, _, _, rfl, k0, k1, k3⟩) (fun w18 S19 => ?_)
  simp only [pS, pN, pA, pC, pZ]
  refine do_ rfl (.int .i64 (rdE r)) (ex_assign _) ?_
  simp only [pS, pN, pA, pC, pZ]
  refine wl_nil (hK17 _ _ ?_)
  refine wp_seq_k (fun K20 hK20 => region_wl ?_)
  refine do_ rfl (.int .i64 (rdE r)) (ex_move _) ?_
  simp only [pS, pN, pA, pC, pZ]
  by_cases hc18 : (rdE r) = (0 : Int)
  ·refine do_ rfl (.bool false) (ex_neq (m := (rdE r)) (n := (0 : Int)) (b := false) rfl rfl (bne_eq_false_iff_eq.2 (by omega))) ?_
   simp only [pS, pN, pA, pC, pZ]
   refine wl_nil (hK20 _ _ ?_)
   refine wp_cond_false rfl ?_
   refine wp_skip ?_
   refine hK16 _ _ ?_
   refine wp_seq_k (fun K21 hK21 => ?_)
   have hr : RdOk r := rdE_ok.1 (by omega)
   obtain ⟨hb0, hb1, hb2⟩ := hr.small
   refine region_wl ?_
   refine do_ rfl (.agg #[(.int .i64 t.start), (.slice x0 t.reads.length y0), (.slice x1 t.writes.length y1)]) (ex_load rfl (loadN (cs := [(.int .i64 t.start), (.slice x0 t.reads.length y0), (.slice x1 t.writes.length y1)]) Try.underlying75 rfl (size_75) (St.range S19 (i := 2) rfl 0 [(.int .i64 t.start), (.slice x0 t.reads.length y0), (.slice x1 t.writes.length y1)] (sub_range 0 rfl)))) ?_
   simp only [pS, pN, pA, pC, pZ]
   refine stGivesTx S19 rfl (ex_fn (vs := #[(.agg #[(.int .i64 t.start), (.slice x0 t.reads.length y0), (.slice x1 t.writes.length y1)])]) (map1 rfl) rfl (ent_74 _ _)) (txnOwn_spec _ _ _ t (S19).sat ⟨_, _, _, _, rfl, h0, h1⟩ ht) (by decide) ?_
   intro a22 c23 a24 c25 w26 F27 S28 le29 hc30 hc31
   unfold maxLen at hc30 hc31
   simp only [pS, pN, pA, pC, pZ]
   have S28 : St w F w26 F27 [⟨n8, [(.int .i64 0), (.slice none 0 0), (.slice none 0 0)], 75⟩, ⟨n5, [(.slice z0 r.name.length z1), (.slice z2 r.key.length z3), (.bool r.wide), (.slice z4 r.last.length z5)], 83⟩, ⟨n2, [(.int .i64 t.start), (.slice x0 t.reads.length y0), (.slice x1 t.writes.length y1)], 75⟩] [ownP 4 RdC RdC.mono 83 w.heap.size (.slice a22 t.reads.length c23) t.reads, ownP 4 WrC WrC.mono 27 w.heap.size (.slice a24 t.writes.length c25) t.writes] := S28
   refine stNew S28 (v := fun n => .pointer (some ⟨n, 0, none⟩)) rfl (ex_alloc (zero_75 _)) (fun n32 w33 S34 => ?_)
   simp only [pS, pN, pA, pC, pZ]
   have S34 : St w F w33 F27 [⟨n32, [(.int .i64 0), (.slice none 0 0), (.slice none 0 0)], 75⟩, ⟨n8, [(.int .i64 0), (.slice none 0 0), (.slice none 0 0)], 75⟩, ⟨n5, [(.slice z0 r.name.length z1), (.slice z2 r.key.length z3), (.bool r.wide), (.slice z4 r.last.length z5)], 83⟩, ⟨n2, [(.int .i64 t.start), (.slice x0 t.reads.length y0), (.slice x1 t.writes.length y1)], 75⟩] [ownP 4 RdC RdC.mono 83 w.heap.size (.slice a22 t.reads.length c23) t.reads, ownP 4 WrC WrC.mono 27 w.heap.size (.slice a24 t.writes.length c25) t.writes] := S34
   refine stStore (i := 0) (v := (.agg #[(.int .i64 t.start), (.slice a22 t.reads.length c23), (.slice a24 t.writes.length c25)])) S34 rfl rfl rfl rfl (size_75) (allc3 rfl rfl rfl) (Nat.le_of_ble_eq_true rfl) (fun w35 S36 => ?_)
   simp only [pS, pN, pA, pC, pZ]
   have S36 : St w F w35 F27 [⟨n32, [(.int .i64 t.start), (.slice a22 t.reads.length c23), (.slice a24 t.writes.length c25)], 75⟩, ⟨n8, [(.int .i64 0), (.slice none 0 0), (.slice none 0 0)], 75⟩, ⟨n5, [(.slice z0 r.name.length z1), (.slice z2 r.key.length z3), (.bool r.wide), (.slice z4 r.last.length z5)], 83⟩, ⟨n2, [(.int .i64 t.start), (.slice x0 t.reads.length y0), (.slice x1 t.writes.length y1)], 75⟩] [ownP 4 RdC RdC.mono 83 w.heap.size (.slice a22 t.reads.length c23) t.reads, ownP 4 WrC WrC.mono 27 w.heap.size (.slice a24 t.writes.length c25) t.writes] := S36
   refine wl_nil (hK21 _ _ ?_)
   refine wp_seq_k (fun K37 hK37 => ?_)
   refine wp_block ?_
   refine wp_seq_k (fun K38 hK38 => ?_)
   obtain ⟨S39, le40, hc41⟩ := St.freezeBlk S36 (i := 2) rfl
   have r43 : RdP _ n5 r := ⟨_, _, _, _, _, _, hc41 0 _ rfl, hc41 1 _ rfl, hc41 2 _ rfl, hc41 3 _ rfl, ((k0.mono le29).mono le40), ((k1.mono le29).mono le40), ((k3.mono le29).mono le40)⟩
   generalize addF F27 w35 n5 = F42 at *
   have S39 : St w F w35 F42 [⟨n32, [(.int .i64 t.start), (.slice a22 t.reads.length c23), (.slice a24 t.writes.length c25)], 75⟩, ⟨n8, [(.int .i64 0), (.slice none 0 0), (.slice none 0 0)], 75⟩, ⟨n2, [(.int .i64 t.start), (.slice x0 t.reads.length y0), (.slice x1 t.writes.length y1)], 75⟩] [ownP 4 RdC RdC.mono 83 w.heap.size (.slice a22 t.reads.length c23) t.reads, ownP 4 WrC WrC.mono 27 w.heap.size (.slice a24 t.writes.length c25) t.writes] := S39
   refine region_wl ?_
   refine do_ rfl (.pointer (some ⟨n2, 1, none⟩)) (ex_field (q := ⟨n2, 1, none⟩) rfl (fa_75_1 _ _)) ?_
   simp only [pS, pN, pA, pC, pZ]
   refine do_ rfl (.slice x0 t.reads.length y0) (ex_load rfl (load1 (nagg_73 _) (St.cell S39 (i := 2) rfl rfl))) ?_
   simp only [pS, pN, pA, pC, pZ]
   refine do_ rfl (.func (.func 81) #[] #[(.pointer (some ⟨n5, 0, none⟩))]) (ex_makeFunc rfl) ?_
   simp only [pS, pN, pA, pC, pZ]
   refine stTells (v := (.bool (t.reads.any (fun q => decide (q = r))))) S39 rfl (ex_fn (vs := #[(.slice x0 t.reads.length y0), (.func (.func 81) #[] #[(.pointer (some ⟨n5, 0, none⟩))])]) (map2 rfl rfl) rfl (ent_80 _ _)) (note1_contains _ _ _ n5 t.reads r (S39).sat (h0.mono (le29.trans le40)) r43 (by omega)) (fun w57 S58 => ?_)
   simp only [pS, pN, pA, pC, pZ]
   refine do_ rfl (.bool (t.reads.any (fun q => decide (q = r)))) (ex_assign _) ?_
   simp only [pS, pN, pA, pC, pZ]
   refine wl_nil (hK38 _ _ ?_)
   refine wp_cond_split rfl (fun hc59 => ?_) (fun hc59 => ?_)
   ·refine wp_skip ?_
    refine hK37 _ _ ?_
    refine wp_seq_k (fun K60 hK60 => ?_)
    obtain ⟨F61, S62, le63, hv64⟩ := St.freeze S58 (i := 0) rfl (Nat.le_refl _)
    have S62 : St w F w57 F61 [⟨n32, [(.int .i64 t.start), (.slice a22 t.reads.length c23), (.slice a24 t.writes.length c25)], 75⟩, ⟨n8, [(.int .i64 0), (.slice none 0 0), (.slice none 0 0)], 75⟩, ⟨n2, [(.int .i64 t.start), (.slice x0 t.reads.length y0), (.slice x1 t.writes.length y1)], 75⟩] [ownP 4 WrC WrC.mono 27 w.heap.size (.slice a24 t.writes.length c25) t.writes] := S62
    have hv64 : Rds _ (.slice a22 t.reads.length c23) t.reads := hv64
    obtain ⟨F65, S66, le67, hv68⟩ := St.freeze S62 (i := 0) rfl (Nat.le_refl _)
    have S66 : St w F w57 F65 [⟨n32, [(.int .i64 t.start), (.slice a22 t.reads.length c23), (.slice a24 t.writes.length c25)], 75⟩, ⟨n8, [(.int .i64 0), (.slice none 0 0), (.slice none 0 0)], 75⟩, ⟨n2, [(.int .i64 t.start), (.slice x0 t.reads.length y0), (.slice x1 t.writes.length y1)], 75⟩] [] := S66
    have hv68 : Wrs _ (.slice a24 t.writes.length c25) t.writes := hv68
    refine region_wl ?_
    refine do_ rfl (.agg #[(.int .i64 t.start), (.slice a22 t.reads.length c23), (.slice a24 t.writes.length c25)]) (ex_load rfl (loadN (cs := [(.int .i64 t.start), (.slice a22 t.reads.length c23), (.slice a24 t.writes.length c25)]) Try.underlying75 rfl (size_75) (St.range S66 (i := 0) rfl 0 [(.int .i64 t.start), (.slice a22 t.reads.length c23), (.slice a24 t.writes.length c25)] (sub_range 0 rfl)))) ?_
    simp only [pS, pN, pA, pC, pZ]
    refine stStore (i := 1) (v := (.agg #[(.int .i64 t.start), (.slice a22 t.reads.length c23), (.slice a24 t.writes.length c25)])) S66 rfl rfl rfl rfl (size_75) (allc3 rfl rfl rfl) (Nat.le_of_ble_eq_true rfl) (fun w69 S70 => ?_)
    simp only [pS, pN, pA, pC, pZ]
    have S70 : St w F w69 F65 [⟨n32, [(.int .i64 t.start), (.slice a22 t.reads.length c23), (.slice a24 t.writes.length c25)], 75⟩, ⟨n8, [(.int .i64 t.start), (.slice a22 t.reads.length c23), (.slice a24 t.writes.length c25)], 75⟩, ⟨n2, [(.int .i64 t.start), (.slice x0 t.reads.length y0), (.slice x1 t.writes.length y1)], 75⟩] [] := S70
    refine do_ rfl (.int .i64 0) (ex_assign _) ?_
    simp only [pS, pN, pA, pC, pZ]
    refine wl_nil (hK60 _ _ ?_)
    refine wp_ret ?_
    (try simp only [Exit.then, Exit.inBlock, ↓reduceIte, Nat.reduceEqDiff])
    refine bodyPost_ret (v := (.tuple #[(.agg #[(.int .i64 t.start), (.slice a22 t.reads.length c23), (.slice a24 t.writes.length c25)]), (.int .i64 0)])) ?_ rfl ?_
    ·exact res_ct rfl ⟨_, rfl, loadN (cs := [(.int .i64 t.start), (.slice a22 t.reads.length c23), (.slice a24 t.writes.length c25)]) Try.underlying75 rfl (size_75) (St.range S70 (i := 1) rfl 0 [(.int .i64 t.start), (.slice a22 t.reads.length c23), (.slice a24 t.writes.length c25)] (sub_range 0 rfl))⟩ rfl
    ·have hm : r ∈ t.reads := by obtain ⟨x, hx, e⟩ := List.any_eq_true.1 hc59; have := of_decide_eq_true e; subst this; exact hx
     obtain ⟨he, hT⟩ := noteE_ok ht hr (show noteX t r = some t by unfold noteX; rw [if_pos hm])
     rw [he, hT]
     exact ⟨_, _, rfl, S70.gr, _, rfl, _, _, _, _, rfl, (hv64.mono le67), hv68⟩
   ·refine wp_seq_k (fun K71 hK71 => region_wl ?_)
    refine do_ rfl (.pointer (some ⟨n2, 1, none⟩)) (ex_field (q := ⟨n2, 1, none⟩) rfl (fa_75_1 _ _)) ?_
    simp only [pS, pN, pA, pC, pZ]
    refine do_ rfl (.slice x0 t.reads.length y0) (ex_load rfl (load1 (nagg_73 _) (St.cell S58 (i := 2) rfl rfl))) ?_
    simp only [pS, pN, pA, pC, pZ]
    refine do_ rfl (.int .i64 ((t.reads.length : Nat) : Int)) (ex_len Try.underlying73 rfl) ?_
    simp only [pS, pN, pA, pC, pZ]
    by_cases hc39 : t.reads.length = 20
    ·refine do_ rfl (.bool true) (ex_eql (m := ((t.reads.length : Nat) : Int)) (n := (20 : Int)) (b := true) rfl rfl (beq_iff_eq.2 (by omega))) ?_
     simp only [pS, pN, pA, pC, pZ]
     refine do_ rfl (.bool true) (ex_assign _) ?_
     simp only [pS, pN, pA, pC, pZ]
     refine wl_nil (hK71 _ _ ?_)
     refine wp_cond_true rfl ?_
     refine wp_seq_k (fun K72 hK72 => region_wl ?_)
     refine do_ rfl (.agg #[(.int .i64 0), (.slice none 0 0), (.slice none 0 0)]) (ex_build (ps := #[]) (bmap0) (by kernel_rfl)) ?_
     simp only [pS, pN, pA, pC, pZ]
     refine stStore (i := 1) (v := (.agg #[(.int .i64 0), (.slice none 0 0), (.slice none 0 0)])) S58 rfl rfl rfl rfl (size_75) (allc3 rfl rfl rfl) (Nat.le_of_ble_eq_true rfl) (fun w73 S74 => ?_)
     simp only [pS, pN, pA, pC, pZ]
     have S74 : St w F w73 F42 [⟨n32, [(.int .i64 t.start), (.slice a22 t.reads.length c23), (.slice a24 t.writes.length c25)], 75⟩, ⟨n8, [(.int .i64 0), (.slice none 0 0), (.slice none 0 0)], 75⟩, ⟨n2, [(.int .i64 t.start), (.slice x0 t.reads.length y0), (.slice x1 t.writes.length y1)], 75⟩] [ownP 4 RdC RdC.mono 83 w.heap.size (.slice a22 t.reads.length c23) t.reads, ownP 4 WrC WrC.mono 27 w.heap.size (.slice a24 t.writes.length c25) t.writes] := S74
     refine do_ rfl (.int .i64 11) (ex_assign _) ?_
     simp only [pS, pN, pA, pC, pZ]
     refine wl_nil (hK72 _ _ ?_)
     refine wp_ret ?_
     (try simp only [Exit.then, Exit.inBlock, ↓reduceIte, Nat.reduceEqDiff])
     refine bodyPost_ret (v := (.tuple #[(.agg #[(.int .i64 0), (.slice none 0 0), (.slice none 0 0)]), (.int .i64 11)])) ?_ rfl ?_
     ·exact res_ct rfl ⟨_, rfl, loadN (cs := [(.int .i64 0), (.slice none 0 0), (.slice none 0 0)]) Try.underlying75 rfl (size_75) (St.range S74 (i := 1) rfl 0 [(.int .i64 0), (.slice none 0 0), (.slice none 0 0)] (sub_range 0 rfl))⟩ rfl
     ·have hm : r ∉ t.reads := by intro hm; have : t.reads.any (fun q => decide (q = r)) = true := List.any_eq_true.2 ⟨r, hm, decide_eq_true rfl⟩; rw [this] at hc59; simp at hc59
      have he : noteE t r = 11 := by unfold noteE; rw [if_neg (by omega), if_neg (by omega), if_neg hm, if_pos (by omega)]
      have hT : noteT t r = nilX := by unfold noteT; rw [if_pos (by rw [he]; decide)]
      rw [he, hT]
      exact ⟨_, _, rfl, S74.gr, _, rfl, _, _, _, _, rfl, (Sl.nil _ _ _), (Sl.nil _ _ _)⟩
    ·refine do_ rfl (.bool false) (ex_eql (m := ((t.reads.length : Nat) : Int)) (n := (20 : Int)) (b := false) rfl rfl (beq_eq_false_iff_ne.2 (by omega))) ?_
     simp only [pS, pN, pA, pC, pZ]
     refine do_ rfl (.bool false) (ex_assign _) ?_
     simp only [pS, pN, pA, pC, pZ]
     refine wl_nil (hK71 _ _ ?_)
     refine wp_cond_false rfl ?_
     refine region_gw F42 5 [(3, .made (fun F' u => RdV F' u r)), (4, .made (fun F' u => Rds F' u [r]))] (by kernel_rfl) (by kernel_rfl) ?_
     simp only [List.take_succ_cons, List.take_zero]
     refine gw_pure rfl rfl (.pointer (some ⟨n32, 1, none⟩)) (fun w75 hCw75 => pureAt_of (ex_field (q := ⟨n32, 1, none⟩) rfl (fa_75_1 _ _))) ?_
     simp only [pS, pN, pA, pC, pZ]
     refine gw_pure rfl rfl (.slice a22 t.reads.length c23) (fun w75 hCw75 => pureAt_of (ex_load rfl (load1 (nagg_73 _) (St.cell (St.tells S58 hCw75) (i := 0) rfl rfl)))) ?_
     simp only [pS, pN, pA, pC, pZ]
     refine gw_pure rfl rfl (.agg #[(.slice z0 r.name.length z1), (.slice z2 r.key.length z3), (.bool r.wide), (.slice z4 r.last.length z5)]) (fun w75 hCw75 => pureAt_of (ex_load rfl (loadN (cs := [(.slice z0 r.name.length z1), (.slice z2 r.key.length z3), (.bool r.wide), (.slice z4 r.last.length z5)]) Try.underlying83 rfl (size_83) (range4 (St.fz (St.tells S58 hCw75) (hc41 0 _ rfl)) (St.fz (St.tells S58 hCw75) (hc41 1 _ rfl)) (St.fz (St.tells S58 hCw75) (hc41 2 _ rfl)) (St.fz (St.tells S58 hCw75) (hc41 3 _ rfl)))))) ?_
     simp only [pS, pN, pA, pC, pZ]
     refine gw_rel rfl rfl (fun w75 hCw75 hF => does_call (ex_fn (vs := #[(.agg #[(.slice z0 r.name.length z1), (.slice z2 r.key.length z3), (.bool r.wide), (.slice z4 r.last.length z5)])]) (map1 rfl) rfl (ent_83 _ _)) (call_made S58.sat hCw75 (read_spec _ _ _ r ((St.tells S58 hCw75)).sat ⟨_, _, _, _, _, _, rfl, (k0.mono (le29.trans le40)), (k1.mono (le29.trans le40)), (k3.mono (le29.trans le40))⟩ hb0 hb1 hb2))) (fun v76 => ?_)
     simp only [pS, pN, pA, pC, pZ]
     refine gw_rel rfl rfl (fun w75 hCw75 hF_ => ?_) (fun v89 => ?_)
     ·obtain ⟨F86, g87, R88⟩ := hF_.get 3 (by kernel_rfl) rfl rfl
      obtain ⟨xa77, xc78, xa80, xc81, xa83, xc84, rfl, r79, r82, r85⟩ := R88
      exact does_lit (k := 4) (R := RdC) (hR := RdC.mono) (p := r) (cs := [.slice xa77 _ xc78, .slice xa80 _ xc81, _, .slice xa83 _ xc84]) (E := 83) g87 ⟨_, _, _, _, rfl, r79, r82, rfl, r85⟩ rfl (ex_lit (E := 83) (cells := #[.slice xa77 _ xc78, .slice xa80 _ xc81, _, .slice xa83 _ xc84]) (bmap1 rfl) (fun w => by kernel_rfl))
     simp only [pS, pN, pA, pC, pZ]
     refine gw_nil ?_
     intro w90 hC92 hF93
     obtain ⟨F94, g95, R96⟩ := hF93.get 4 rfl rfl
     have S91 := St.gives S58 g95
     have le98 : Le _ _ := g95.le S58.sat
     have R99 := R96
     generalize F94 = F97 at *
     obtain ⟨xa100, xc101, rfl, _⟩ := Sl.shape R99
     clear hF93
     simp only [List.drop_succ_cons, List.drop_zero]
     refine stAppendS (r := 0) (u := (.slice xa100 [r].length xc101)) S91 rfl i83 (.agg #[(.slice none 0 0), (.slice none 0 0), (.bool false), (.slice none 0 0)]) 80 Try.underlying73 hi83 hz83 hs83 hb83 rfl (by decide) rfl rfl rfl (Sl.toW R99 (S91).sat) (fun F cs p h => RdC.oneCell h) (Nat.le_refl _) S91.gr.below.size (by unfold maxLen; simp only [List.length_cons, List.length_nil]; omega) (by simp only [List.length_cons, List.length_nil]; omega) ?_
     intro v102 w103 S104 hn105
     simp only [pS, pN, pA, pC, pZ]
     have S104 : St w F w103 F97 [⟨n32, [(.int .i64 t.start), (.slice a22 t.reads.length c23), (.slice a24 t.writes.length c25)], 75⟩, ⟨n8, [(.int .i64 0), (.slice none 0 0), (.slice none 0 0)], 75⟩, ⟨n2, [(.int .i64 t.start), (.slice x0 t.reads.length y0), (.slice x1 t.writes.length y1)], 75⟩] [ownP 4 RdC RdC.mono 83 w.heap.size v102 (t.reads ++ [r]), ownP 4 WrC WrC.mono 27 w.heap.size (.slice a24 t.writes.length c25) t.writes] := S104
     have hpe : (⟨r.name, r.key, r.wide, r.last⟩ : Rd) = r := rfl
     obtain ⟨a106, cap107, rfl, h108, h109⟩ := (S104.own (i := 0) rfl).shape
     unfold maxLen at h109
     refine do_ rfl (.pointer (some ⟨n32, 1, none⟩)) (ex_field (q := ⟨n32, 1, none⟩) rfl (fa_75_1 _ _)) ?_
     simp only [pS, pN, pA, pC, pZ]
     refine stStore (i := 0) (v := (.slice a106 (t.reads ++ [r]).length cap107)) S104 rfl rfl rfl rfl (size_73) (allc1 rfl) (Nat.le_of_ble_eq_true rfl) (fun w110 S111 => ?_)
     simp only [pS, pN, pA, pC, pZ]
     have S111 : St w F w110 F97 [⟨n32, [(.int .i64 t.start), (.slice a106 (t.reads ++ [r]).length cap107), (.slice a24 t.writes.length c25)], 75⟩, ⟨n8, [(.int .i64 0), (.slice none 0 0), (.slice none 0 0)], 75⟩, ⟨n2, [(.int .i64 t.start), (.slice x0 t.reads.length y0), (.slice x1 t.writes.length y1)], 75⟩] [ownP 4 RdC RdC.mono 83 w.heap.size (.slice a106 (t.reads ++ [r]).length cap107) (t.reads ++ [r]), ownP 4 WrC WrC.mono 27 w.heap.size (.slice a24 t.writes.length c25) t.writes] := S111
     refine wl_nil (hK37 _ _ ?_)
     refine wp_seq_k (fun K112 hK112 => ?_)
     obtain ⟨F113, S114, le115, hv116⟩ := St.freeze S111 (i := 0) rfl (Nat.le_refl _)
     have S114 : St w F w110 F113 [⟨n32, [(.int .i64 t.start), (.slice a106 (t.reads ++ [r]).length cap107), (.slice a24 t.writes.length c25)], 75⟩, ⟨n8, [(.int .i64 0), (.slice none 0 0), (.slice none 0 0)], 75⟩, ⟨n2, [(.int .i64 t.start), (.slice x0 t.reads.length y0), (.slice x1 t.writes.length y1)], 75⟩] [ownP 4 WrC WrC.mono 27 w.heap.size (.slice a24 t.writes.length c25) t.writes] := S114
     have hv116 : Rds _ (.slice a106 (t.reads ++ [r]).length cap107) (t.reads ++ [r]) := hv116
     obtain ⟨F117, S118, le119, hv120⟩ := St.freeze S114 (i := 0) rfl (Nat.le_refl _)
     have S118 : St w F w110 F117 [⟨n32, [(.int .i64 t.start), (.slice a106 (t.reads ++ [r]).length cap107), (.slice a24 t.writes.length c25)], 75⟩, ⟨n8, [(.int .i64 0), (.slice none 0 0), (.slice none 0 0)], 75⟩, ⟨n2, [(.int .i64 t.start), (.slice x0 t.reads.length y0), (.slice x1 t.writes.length y1)], 75⟩] [] := S118
     have hv120 : Wrs _ (.slice a24 t.writes.length c25) t.writes := hv120
     refine region_wl ?_
     refine do_ rfl (.agg #[(.int .i64 t.start), (.slice a106 (t.reads ++ [r]).length cap107), (.slice a24 t.writes.length c25)]) (ex_load rfl (loadN (cs := [(.int .i64 t.start), (.slice a106 (t.reads ++ [r]).length cap107), (.slice a24 t.writes.length c25)]) Try.underlying75 rfl (size_75) (St.range S118 (i := 0) rfl 0 [(.int .i64 t.start), (.slice a106 (t.reads ++ [r]).length cap107), (.slice a24 t.writes.length c25)] (sub_range 0 rfl)))) ?_
     simp only [pS, pN, pA, pC, pZ]
     refine stStore (i := 1) (v := (.agg #[(.int .i64 t.start), (.slice a106 (t.reads ++ [r]).length cap107), (.slice a24 t.writes.length c25)])) S118 rfl rfl rfl rfl (size_75) (allc3 rfl rfl rfl) (Nat.le_of_ble_eq_true rfl) (fun w121 S122 => ?_)
     simp only [pS, pN, pA, pC, pZ]
     have S122 : St w F w121 F117 [⟨n32, [(.int .i64 t.start), (.slice a106 (t.reads ++ [r]).length cap107), (.slice a24 t.writes.length c25)], 75⟩, ⟨n8, [(.int .i64 t.start), (.slice a106 (t.reads ++ [r]).length cap107), (.slice a24 t.writes.length c25)], 75⟩, ⟨n2, [(.int .i64 t.start), (.slice x0 t.reads.length y0), (.slice x1 t.writes.length y1)], 75⟩] [] := S122
     refine do_ rfl (.int .i64 0) (ex_assign _) ?_
     simp only [pS, pN, pA, pC, pZ]
     refine wl_nil (hK112 _ _ ?_)
     refine wp_ret ?_
     (try simp only [Exit.then, Exit.inBlock, ↓reduceIte, Nat.reduceEqDiff])
     refine bodyPost_ret (v := (.tuple #[(.agg #[(.int .i64 t.start), (.slice a106 (t.reads ++ [r]).length cap107), (.slice a24 t.writes.length c25)]), (.int .i64 0)])) ?_ rfl ?_
     ·exact res_ct rfl ⟨_, rfl, loadN (cs := [(.int .i64 t.start), (.slice a106 (t.reads ++ [r]).length cap107), (.slice a24 t.writes.length c25)]) Try.underlying75 rfl (size_75) (St.range S122 (i := 1) rfl 0 [(.int .i64 t.start), (.slice a106 (t.reads ++ [r]).length cap107), (.slice a24 t.writes.length c25)] (sub_range 0 rfl))⟩ rfl
     ·have hm : r ∉ t.reads := by intro hm; have : t.reads.any (fun q => decide (q = r)) = true := List.any_eq_true.2 ⟨r, hm, decide_eq_true rfl⟩; rw [this] at hc59; simp at hc59
      obtain ⟨he, hT⟩ := noteE_ok ht hr (show noteX t r = some ⟨t.start, t.reads ++ [r], t.writes⟩ by unfold noteX; rw [if_neg hm, if_neg (by omega)])
      rw [he, hT]
      exact ⟨_, _, rfl, S122.gr, _, rfl, _, _, _, _, rfl, (hv116.mono le119), hv120⟩
  ·refine do_ rfl (.bool true) (ex_neq (m := (rdE r)) (n := (0 : Int)) (b := true) rfl rfl (bne_iff_ne.2 (by omega))) ?_
   simp only [pS, pN, pA, pC, pZ]
   refine wl_nil (hK20 _ _ ?_)
   refine wp_cond_true rfl ?_
   refine wp_seq_k (fun K123 hK123 => region_wl ?_)
   refine do_ rfl (.agg #[(.int .i64 0), (.slice none 0 0), (.slice none 0 0)]) (ex_build (ps := #[]) (bmap0) (by kernel_rfl)) ?_
   simp only [pS, pN, pA, pC, pZ]
   refine do_ rfl (.int .i64 (rdE r)) (ex_move _) ?_
   simp only [pS, pN, pA, pC, pZ]
   refine stStore (i := 0) (v := (.agg #[(.int .i64 0), (.slice none 0 0), (.slice none 0 0)])) S19 rfl rfl rfl rfl (size_75) (allc3 rfl rfl rfl) (Nat.le_of_ble_eq_true rfl) (fun w124 S125 => ?_)
   simp only [pS, pN, pA, pC, pZ]
   have S125 : St w F w124 F [⟨n8, [(.int .i64 0), (.slice none 0 0), (.slice none 0 0)], 75⟩, ⟨n5, [(.slice z0 r.name.length z1), (.slice z2 r.key.length z3), (.bool r.wide), (.slice z4 r.last.length z5)], 83⟩, ⟨n2, [(.int .i64 t.start), (.slice x0 t.reads.length y0), (.slice x1 t.writes.length y1)], 75⟩] [] := S125
   refine do_ rfl (.int .i64 (rdE r)) (ex_assign _) ?_
   simp only [pS, pN, pA, pC, pZ]
   refine wl_nil (hK123 _ _ ?_)
   refine wp_ret ?_
   (try simp only [Exit.then, Exit.inBlock, ↓reduceIte, Nat.reduceEqDiff])
   refine bodyPost_ret (v := (.tuple #[(.agg #[(.int .i64 0), (.slice none 0 0), (.slice none 0 0)]), (.int .i64 (rdE r))])) ?_ rfl ?_
   ·exact res_ct rfl ⟨_, rfl, loadN (cs := [(.int .i64 0), (.slice none 0 0), (.slice none 0 0)]) Try.underlying75 rfl (size_75) (St.range S125 (i := 0) rfl 0 [(.int .i64 0), (.slice none 0 0), (.slice none 0 0)] (sub_range 0 rfl))⟩ rfl
   ·have he : noteE t r = rdE r := by unfold noteE; rw [if_neg (by omega), if_pos hc18]
    have hT : noteT t r = nilX := by unfold noteT; rw [if_pos (by rw [he]; exact hc18)]
    rw [he, hT]
    exact ⟨_, _, rfl, S125.gr, _, rfl, _, _, _, _, rfl, (Sl.nil _ _ _), (Sl.nil _ _ _)⟩
 ·refine do_ rfl (.bool true) (ex_neq (m := (txE t)) (n := (0 : Int)) (b := true) rfl rfl (bne_iff_ne.2 (by omega))) ?_
  simp only [pS, pN, pA, pC, pZ]
  refine wl_nil (hK15 _ _ ?_)
  refine wp_cond_true rfl ?_
  refine wp_seq_k (fun K126 hK126 => region_wl ?_)
  refine do_ rfl (.agg #[(.int .i64 0), (.slice none 0 0), (.slice none 0 0)]) (ex_build (ps := #[]) (bmap0) (by kernel_rfl)) ?_
  simp only [pS, pN, pA, pC, pZ]
  refine do_ rfl (.int .i64 (txE t)) (ex_move _) ?_
  simp only [pS, pN, pA, pC, pZ]
  refine stStore (i := 0) (v := (.agg #[(.int .i64 0), (.slice none 0 0), (.slice none 0 0)])) S14 rfl rfl rfl rfl (size_75) (allc3 rfl rfl rfl) (Nat.le_of_ble_eq_true rfl) (fun w127 S128 => ?_)
  simp only [pS, pN, pA, pC, pZ]
  have S128 : St w F w127 F [⟨n8, [(.int .i64 0), (.slice none 0 0), (.slice none 0 0)], 75⟩, ⟨n5, [(.slice z0 r.name.length z1), (.slice z2 r.key.length z3), (.bool r.wide), (.slice z4 r.last.length z5)], 83⟩, ⟨n2, [(.int .i64 t.start), (.slice x0 t.reads.length y0), (.slice x1 t.writes.length y1)], 75⟩] [] := S128
  refine do_ rfl (.int .i64 (txE t)) (ex_assign _) ?_
  simp only [pS, pN, pA, pC, pZ]
  refine wl_nil (hK126 _ _ ?_)
  refine wp_ret ?_
  (try simp only [Exit.then, Exit.inBlock, ↓reduceIte, Nat.reduceEqDiff])
  refine bodyPost_ret (v := (.tuple #[(.agg #[(.int .i64 0), (.slice none 0 0), (.slice none 0 0)]), (.int .i64 (txE t))])) ?_ rfl ?_
  ·exact res_ct rfl ⟨_, rfl, loadN (cs := [(.int .i64 0), (.slice none 0 0), (.slice none 0 0)]) Try.underlying75 rfl (size_75) (St.range S128 (i := 0) rfl 0 [(.int .i64 0), (.slice none 0 0), (.slice none 0 0)] (sub_range 0 rfl))⟩ rfl
  ·have he : noteE t r = txE t := by unfold noteE; rw [if_pos hc12]
   have hT : noteT t r = nilX := by unfold noteT; rw [if_pos (by rw [he]; exact hc12)]
   rw [he, hT]
   exact ⟨_, _, rfl, S128.gr, _, rfl, _, _, _, _, rfl, (Sl.nil _ _ _), (Sl.nil _ _ _)⟩
set_option maxHeartbeats 8000000 in
theorem txnWriteT_spec (F : Fz) (w : World) (v u : Value) (t : Tx) (r : Wr) (hs : Sat w F) (hv : TxV F v t) (hu : WrV F u r) (hbw : ∀ r ∈ t.writes, r.name.length ≤ 100000 ∧ r.key.length ≤ 100000 ∧ r.value.length ≤ 100000) (hbr : r.name.length ≤ 100000 ∧ r.key.length ≤ 100000 ∧ r.value.length ≤ 100000) :
    Calls Try.prog 42 #[v, u] w (Gives w F fun F' u => TxE F' u (writeT t r) (writeE t r)) := by
 obtain ⟨x0, y0, x1, y1, rfl, h0, h1⟩ := hv
 obtain ⟨_, _, e0, q0, q1⟩ := Sl.shape h0
 obtain ⟨_, _, e1, q2, q3⟩ := Sl.shape h1
 injection e0 with _ _ e0
 injection e1 with _ _ e1
 subst e0 e1
 unfold maxLen at q1 q3
 obtain ⟨z0, z1, z2, z3, z4, z5, rfl, k0, k1, k3⟩ := hu
 obtain ⟨i27, hi27, hz27, hs27, hb27⟩ := info_parts info_27
 have S := St.start hs
 go_enter Try.func42, Try.ntmps42
 refine wp_seq_k (fun K1 hK1 => region_wl ?_)
 refine stNew S (v := fun n => .pointer (some ⟨n, 0, none⟩)) rfl (ex_box (v := (.agg #[(.int .i64 t.start), (.slice x0 t.reads.length y0), (.slice x1 t.writes.length y1)])) rfl) (fun n2 w3 S4 => ?_)
 simp only [pS, pN, pA, pC, pZ]
 have S4 : St w F w3 F [⟨n2, [(.int .i64 t.start), (.slice x0 t.reads.length y0), (.slice x1 t.writes.length y1)], 75⟩] [] := S4
 refine stNew S4 (v := fun n => .pointer (some ⟨n, 0, none⟩)) rfl (ex_box (v := (.agg #[(.slice z0 r.name.length z1), (.slice z2 r.key.length z3), (.bool r.gone), (.slice z4 r.value.length z5)])) rfl) (fun n5 w6 S7 => ?_)
 simp only [pS, pN, pA, pC, pZ]
 have S7 : St w F w6 F [⟨n5, [(.slice z0 r.name.length z1), (.slice z2 r.key.length z3), (.bool r.gone), (.slice z4 r.value.length z5)], 27⟩, ⟨n2, [(.int .i64 t.start), (.slice x0 t.reads.length y0), (.slice x1 t.writes.length y1)], 75⟩] [] := S7
 refine stNew S7 (v := fun n => .pointer (some ⟨n, 0, none⟩)) rfl (ex_alloc (zero_75 _)) (fun n8 w9 S10 => ?_)
 simp only [pS, pN, pA, pC, pZ]
 have S10 : St w F w9 F [⟨n8, [(.int .i64 0), (.slice none 0 0), (.slice none 0 0)], 75⟩, ⟨n5, [(.slice z0 r.name.length z1), (.slice z2 r.key.length z3), (.bool r.gone), (.slice z4 r.value.length z5)], 27⟩, ⟨n2, [(.int .i64 t.start), (.slice x0 t.reads.length y0), (.slice x1 t.writes.length y1)], 75⟩] [] := S10
 refine do_ rfl (.int .i64 0) (ex_assign _) ?_
 simp only [pS, pN, pA, pC, pZ]
 refine wl_nil (hK1 _ _ ?_)
 refine wp_seq_k (fun K11 hK11 => ?_)
 refine wp_seq_k (fun K12 hK12 => region_wl ?_)
 refine do_ rfl (.agg #[(.int .i64 t.start), (.slice x0 t.reads.length y0), (.slice x1 t.writes.length y1)]) (ex_load rfl (loadN (cs := [(.int .i64 t.start), (.slice x0 t.reads.length y0), (.slice x1 t.writes.length y1)]) Try.underlying75 rfl (size_75) (St.range S10 (i := 2) rfl 0 [(.int .i64 t.start), (.slice x0 t.reads.length y0), (.slice x1 t.writes.length y1)] (sub_range 0 rfl)))) ?_
 simp only [pS, pN, pA, pC, pZ]
 refine stTells (v := (.int .i64 (txE t))) S10 rfl (ex_fn (vs := #[(.agg #[(.int .i64 t.start), (.slice x0 t.reads.length y0), (.slice x1 t.writes.length y1)])]) (map1 rfl) rfl (ent_51 _ _)) (txnCheck_spec _ _ _ t (S10).sat ⟨_, _, _, _, rfl, h0, h1⟩ hbw) (fun w13 S14 => ?_)
 simp only [pS, pN, pA, pC, pZ]
 refine do_ rfl (.int .i64 (txE t)) (ex_assign _) ?_
 simp only [pS, pN, pA, pC, pZ]
 refine wl_nil (hK12 _ _ ?_)
 refine wp_seq_k (fun K15 hK15 => region_wl ?_)
 refine do_ rfl (.int .i64 (txE t)) (ex_move _) ?_
 simp only [pS, pN, pA, pC, pZ]
 by_cases hc13 : (txE t) = (0 : Int)
 ·refine do_ rfl (.bool false) (ex_neq (m := (txE t)) (n := (0 : Int)) (b := false) rfl rfl (bne_eq_false_iff_eq.2 (by omega))) ?_
  simp only [pS, pN, pA, pC, pZ]
  refine wl_nil (hK15 _ _ ?_)
  refine wp_cond_false rfl ?_
  refine wp_skip ?_
  refine hK11 _ _ ?_
  refine wp_seq_k (fun K16 hK16 => ?_)
  refine wp_seq_k (fun K17 hK17 => ?_)
  have ht : TxOk t := txE_ok.1 (by omega)
  have hnr := ht.nr
  have hnw := ht.nw
  refine region_wl ?_
  refine do_ rfl (.agg #[(.slice z0 r.name.length z1), (.slice z2 r.key.length z3), (.bool r.gone), (.slice z4 r.value.length z5)]) (ex_load rfl (loadN (cs := [(.slice z0 r.name.length z1), (.slice z2 r.key.length z3), (.bool r.gone), (.slice z4 r.value.length z5)]) Try.underlying27 rfl (size_27) (St.range S14 (i := 1) rfl 0 [(.slice z0 r.name.length z1), (.slice z2 r.key.length z3), (.bool r.gone), (.slice z4 r.value.length z5)] (sub_range 0 rfl)))) ?_
  simp only [pS, pN, pA, pC, pZ]
  refine stTells (v := (.int .i64 (wrE r))) S14 rfl (ex_fn (vs := #[(.agg #[(.slice z0 r.name.length z1), (.slice z2 r.key.length z3), (.bool r.gone), (.slice z4 r.value.length z5)])]) (map1 rfl) rfl (ent_73 _ _)) (txnWrite_spec _ _ _ r (S14).sat ⟨_, _, _, _, _, _, rfl, k0, k1, k3⟩ hbr) (fun w18 S19 => ?_)
  simp only [pS, pN, pA, pC, pZ]
  refine do_ rfl (.int .i64 (wrE r)) (ex_assign _) ?_
  simp only [pS, pN, pA, pC, pZ]
  refine wl_nil (hK17 _ _ ?_)
  refine wp_seq_k (fun K20 hK20 => region_wl ?_)
  refine do_ rfl (.int .i64 (wrE r)) (ex_move _) ?_
  simp only [pS, pN, pA, pC, pZ]
  by_cases hc19 : (wrE r) = (0 : Int)
  ·refine do_ rfl (.bool false) (ex_neq (m := (wrE r)) (n := (0 : Int)) (b := false) rfl rfl (bne_eq_false_iff_eq.2 (by omega))) ?_
   simp only [pS, pN, pA, pC, pZ]
   refine wl_nil (hK20 _ _ ?_)
   refine wp_cond_false rfl ?_
   refine wp_skip ?_
   refine hK16 _ _ ?_
   refine wp_seq_k (fun K21 hK21 => ?_)
   have hr : WrOk r := wrE_ok.1 (by omega)
   refine region_wl ?_
   refine do_ rfl (.agg #[(.int .i64 t.start), (.slice x0 t.reads.length y0), (.slice x1 t.writes.length y1)]) (ex_load rfl (loadN (cs := [(.int .i64 t.start), (.slice x0 t.reads.length y0), (.slice x1 t.writes.length y1)]) Try.underlying75 rfl (size_75) (St.range S19 (i := 2) rfl 0 [(.int .i64 t.start), (.slice x0 t.reads.length y0), (.slice x1 t.writes.length y1)] (sub_range 0 rfl)))) ?_
   simp only [pS, pN, pA, pC, pZ]
   refine stGivesTx S19 rfl (ex_fn (vs := #[(.agg #[(.int .i64 t.start), (.slice x0 t.reads.length y0), (.slice x1 t.writes.length y1)])]) (map1 rfl) rfl (ent_74 _ _)) (txnOwn_spec _ _ _ t (S19).sat ⟨_, _, _, _, rfl, h0, h1⟩ ht) (by decide) ?_
   intro a22 c23 a24 c25 w26 F27 S28 le29 hc30 hc31
   unfold maxLen at hc30 hc31
   simp only [pS, pN, pA, pC, pZ]
   have S28 : St w F w26 F27 [⟨n8, [(.int .i64 0), (.slice none 0 0), (.slice none 0 0)], 75⟩, ⟨n5, [(.slice z0 r.name.length z1), (.slice z2 r.key.length z3), (.bool r.gone), (.slice z4 r.value.length z5)], 27⟩, ⟨n2, [(.int .i64 t.start), (.slice x0 t.reads.length y0), (.slice x1 t.writes.length y1)], 75⟩] [ownP 4 RdC RdC.mono 83 w.heap.size (.slice a22 t.reads.length c23) t.reads, ownP 4 WrC WrC.mono 27 w.heap.size (.slice a24 t.writes.length c25) t.writes] := S28
   refine stNew S28 (v := fun n => .pointer (some ⟨n, 0, none⟩)) rfl (ex_alloc (zero_75 _)) (fun n32 w33 S34 => ?_)
   simp only [pS, pN, pA, pC, pZ]
   have S34 : St w F w33 F27 [⟨n32, [(.int .i64 0), (.slice none 0 0), (.slice none 0 0)], 75⟩, ⟨n8, [(.int .i64 0), (.slice none 0 0), (.slice none 0 0)], 75⟩, ⟨n5, [(.slice z0 r.name.length z1), (.slice z2 r.key.length z3), (.bool r.gone), (.slice z4 r.value.length z5)], 27⟩, ⟨n2, [(.int .i64 t.start), (.slice x0 t.reads.length y0), (.slice x1 t.writes.length y1)], 75⟩] [ownP 4 RdC RdC.mono 83 w.heap.size (.slice a22 t.reads.length c23) t.reads, ownP 4 WrC WrC.mono 27 w.heap.size (.slice a24 t.writes.length c25) t.writes] := S34
   refine stStore (i := 0) (v := (.agg #[(.int .i64 t.start), (.slice a22 t.reads.length c23), (.slice a24 t.writes.length c25)])) S34 rfl rfl rfl rfl (size_75) (allc3 rfl rfl rfl) (Nat.le_of_ble_eq_true rfl) (fun w35 S36 => ?_)
   simp only [pS, pN, pA, pC, pZ]
   have S36 : St w F w35 F27 [⟨n32, [(.int .i64 t.start), (.slice a22 t.reads.length c23), (.slice a24 t.writes.length c25)], 75⟩, ⟨n8, [(.int .i64 0), (.slice none 0 0), (.slice none 0 0)], 75⟩, ⟨n5, [(.slice z0 r.name.length z1), (.slice z2 r.key.length z3), (.bool r.gone), (.slice z4 r.value.length z5)], 27⟩, ⟨n2, [(.int .i64 t.start), (.slice x0 t.reads.length y0), (.slice x1 t.writes.length y1)], 75⟩] [ownP 4 RdC RdC.mono 83 w.heap.size (.slice a22 t.reads.length c23) t.reads, ownP 4 WrC WrC.mono 27 w.heap.size (.slice a24 t.writes.length c25) t.writes] := S36
   refine wl_nil (hK21 _ _ ?_)
   refine wp_seq_k (fun K37 hK37 => region_wl ?_)
   refine do_ rfl (.agg #[(.slice z0 r.name.length z1), (.slice z2 r.key.length z3), (.bool r.gone), (.slice z4 r.value.length z5)]) (ex_load rfl (loadN (cs := [(.slice z0 r.name.length z1), (.slice z2 r.key.length z3), (.bool r.gone), (.slice z4 r.value.length z5)]) Try.underlying27 rfl (size_27) (St.range S36 (i := 2) rfl 0 [(.slice z0 r.name.length z1), (.slice z2 r.key.length z3), (.bool r.gone), (.slice z4 r.value.length z5)] (sub_range 0 rfl)))) ?_
   simp only [pS, pN, pA, pC, pZ]
   refine stNew S36 (v := fun n => .slice (some ⟨n, 0, none⟩) 1 1) rfl (ex_lit (ps := #[(0, (.agg #[(.slice z0 r.name.length z1), (.slice z2 r.key.length z3), (.bool r.gone), (.slice z4 r.value.length z5)]))]) (cells := #[(.slice z0 r.name.length z1), (.slice z2 r.key.length z3), (.bool r.gone), (.slice z4 r.value.length z5)]) (E := 27) (bmap1 rfl) (fun w => by kernel_rfl)) (fun n38 w39 S40 => ?_)
   simp only [pS, pN, pA, pC, pZ]
   have S40 : St w F w39 F27 [⟨n38, [(.slice z0 r.name.length z1), (.slice z2 r.key.length z3), (.bool r.gone), (.slice z4 r.value.length z5)], 27⟩, ⟨n32, [(.int .i64 t.start), (.slice a22 t.reads.length c23), (.slice a24 t.writes.length c25)], 75⟩, ⟨n8, [(.int .i64 0), (.slice none 0 0), (.slice none 0 0)], 75⟩, ⟨n5, [(.slice z0 r.name.length z1), (.slice z2 r.key.length z3), (.bool r.gone), (.slice z4 r.value.length z5)], 27⟩, ⟨n2, [(.int .i64 t.start), (.slice x0 t.reads.length y0), (.slice x1 t.writes.length y1)], 75⟩] [ownP 4 RdC RdC.mono 83 w.heap.size (.slice a22 t.reads.length c23) t.reads, ownP 4 WrC WrC.mono 27 w.heap.size (.slice a24 t.writes.length c25) t.writes] := S40
   obtain ⟨S41, le42, hc43⟩ := St.freezeBlk S40 (i := 0) rfl
   have r45 : Wrs _ (.slice (some ⟨n38, 0, none⟩) 1 1) [r] := sl_of_block (R := WrC) (l := [r]) (el := [[(.slice z0 r.name.length z1), (.slice z2 r.key.length z3), (.bool r.gone), (.slice z4 r.value.length z5)]]) hc43 rfl ⟨⟨_, _, _, _, rfl, ((k0.mono le29).mono le42), ((k1.mono le29).mono le42), rfl, ((k3.mono le29).mono le42)⟩, trivial⟩ (by simp) (by unfold maxLen; simp)
   generalize addF F27 w39 n38 = F44 at *
   have S41 : St w F w39 F44 [⟨n32, [(.int .i64 t.start), (.slice a22 t.reads.length c23), (.slice a24 t.writes.length c25)], 75⟩, ⟨n8, [(.int .i64 0), (.slice none 0 0), (.slice none 0 0)], 75⟩, ⟨n5, [(.slice z0 r.name.length z1), (.slice z2 r.key.length z3), (.bool r.gone), (.slice z4 r.value.length z5)], 27⟩, ⟨n2, [(.int .i64 t.start), (.slice x0 t.reads.length y0), (.slice x1 t.writes.length y1)], 75⟩] [ownP 4 RdC RdC.mono 83 w.heap.size (.slice a22 t.reads.length c23) t.reads, ownP 4 WrC WrC.mono 27 w.heap.size (.slice a24 t.writes.length c25) t.writes] := S41
   refine stGives S41 rfl (ex_fn (vs := #[(.slice (some ⟨n38, 0, none⟩) 1 1)]) (map1 rfl) rfl (ent_75 _ _)) (txnWrites_spec _ _ _ [r] (S41).sat r45 (by simp) (by intro x hx; rw [List.mem_singleton.1 hx]; exact hbr)) ?_
   intro v51 w46 F48 S47 le49 R50
   obtain ⟨a52, c53, rfl, h54, h55⟩ := Sl.shape R50
   simp only [pS, pN, pA, pC, pZ]
   obtain ⟨b56, o57, ha58, xa60, xc61, xa64, xc65, xa69, xc70, c59, c63, c67, c68, r62, r66, r71⟩ := Wrs.get R50 (show [r][0]? = some r from rfl)
   refine do_ rfl (.pointer (some ⟨b56, o57 + 0 * 4, none⟩)) (ex_at (i := 0) (sz := 4) Try.underlying44 (sizeof_27 _) rfl ha58 rfl (by simp) rfl) ?_
   simp only [pS, pN, pA, pC, pZ]
   refine do_ rfl (.agg #[(.slice xa60 r.name.length xc61), (.slice xa64 r.key.length xc65), (.bool r.gone), (.slice xa69 r.value.length xc70)]) (ex_load rfl (loadN (cs := [(.slice xa60 r.name.length xc61), (.slice xa64 r.key.length xc65), (.bool r.gone), (.slice xa69 r.value.length xc70)]) Try.underlying27 rfl (size_27) (range4 (St.fz S47 c59) (St.fz S47 c63) (St.fz S47 c67) (St.fz S47 c68)))) ?_
   simp only [pS, pN, pA, pC, pZ]
   refine stStore (i := 2) (v := (.agg #[(.slice xa60 r.name.length xc61), (.slice xa64 r.key.length xc65), (.bool r.gone), (.slice xa69 r.value.length xc70)])) S47 rfl rfl rfl rfl (size_27) (allc4 rfl rfl rfl rfl) (Nat.le_of_ble_eq_true rfl) (fun w72 S73 => ?_)
   simp only [pS, pN, pA, pC, pZ]
   have S73 : St w F w72 F48 [⟨n32, [(.int .i64 t.start), (.slice a22 t.reads.length c23), (.slice a24 t.writes.length c25)], 75⟩, ⟨n8, [(.int .i64 0), (.slice none 0 0), (.slice none 0 0)], 75⟩, ⟨n5, [(.slice xa60 r.name.length xc61), (.slice xa64 r.key.length xc65), (.bool r.gone), (.slice xa69 r.value.length xc70)], 27⟩, ⟨n2, [(.int .i64 t.start), (.slice x0 t.reads.length y0), (.slice x1 t.writes.length y1)], 75⟩] [ownP 4 RdC RdC.mono 83 w.heap.size (.slice a22 t.reads.length c23) t.reads, ownP 4 WrC WrC.mono 27 w.heap.size (.slice a24 t.writes.length c25) t.writes] := S73
   refine wl_nil (hK37 _ _ ?_)
   refine wp_seq_k (fun K74 hK74 => ?_)
   obtain ⟨S75, le76, hc77⟩ := St.freezeBlk S73 (i := 2) rfl
   have r79 : WrP _ n5 r := ⟨_, _, _, _, _, _, hc77 0 _ rfl, hc77 1 _ rfl, hc77 2 _ rfl, hc77 3 _ rfl, (r62.mono le76), (r66.mono le76), (r71.mono le76)⟩
   generalize addF F48 w72 n5 = F78 at *
   have S75 : St w F w72 F78 [⟨n32, [(.int .i64 t.start), (.slice a22 t.reads.length c23), (.slice a24 t.writes.length c25)], 75⟩, ⟨n8, [(.int .i64 0), (.slice none 0 0), (.slice none 0 0)], 75⟩, ⟨n2, [(.int .i64 t.start), (.slice x0 t.reads.length y0), (.slice x1 t.writes.length y1)], 75⟩] [ownP 4 RdC RdC.mono 83 w.heap.size (.slice a22 t.reads.length c23) t.reads, ownP 4 WrC WrC.mono 27 w.heap.size (.slice a24 t.writes.length c25) t.writes] := S75
   refine region_wl ?_
   refine do_ rfl (.pointer (some ⟨n32, 2, none⟩)) (ex_field (q := ⟨n32, 2, none⟩) rfl (fa_75_2 _ _)) ?_
   simp only [pS, pN, pA, pC, pZ]
   refine do_ rfl (.slice a24 t.writes.length c25) (ex_load rfl (load1 (nagg_44 _) (St.cell S75 (i := 0) rfl rfl))) ?_
   simp only [pS, pN, pA, pC, pZ]
   refine do_ rfl (.func (.func 77) #[] #[(.pointer (some ⟨n5, 0, none⟩))]) (ex_makeFunc rfl) ?_
   simp only [pS, pN, pA, pC, pZ]
   obtain ⟨F93, hs94, le95, hsl96⟩ := own_peek S75 (i := 1) rfl
   refine stTells (v := (.int .i64 (idxE t.writes (fun q => samePl q r)))) S75 rfl (ex_fn (vs := #[(.slice a24 t.writes.length c25), (.func (.func 77) #[] #[(.pointer (some ⟨n5, 0, none⟩))])]) (map2 rfl rfl) rfl (ent_76 _ _)) (write1_index _ _ _ n5 t.writes r hs94 hsl96 (r79.mono le95) (by omega)) (fun w97 S98 => ?_)
   simp only [pS, pN, pA, pC, pZ]
   refine do_ rfl (.int .i64 (idxE t.writes (fun q => samePl q r))) (ex_assign _) ?_
   simp only [pS, pN, pA, pC, pZ]
   refine wl_nil (hK74 _ _ ?_)
   refine wp_seq_k (fun K99 hK99 => ?_)
   refine wp_block ?_
   refine wp_seq_k (fun K100 hK100 => region_wl ?_)
   refine do_ rfl (.int .i64 (idxE t.writes (fun q => samePl q r))) (ex_move _) ?_
   simp only [pS, pN, pA, pC, pZ]
   by_cases hc41 : (0 : Int) ≤ (idxE t.writes (fun q => samePl q r))
   ·refine do_ rfl (.bool true) (ex_geq (m := (idxE t.writes (fun q => samePl q r))) (n := (0 : Int)) (b := true) rfl rfl (decide_eq_true (by omega))) ?_
    simp only [pS, pN, pA, pC, pZ]
    refine do_ rfl (.bool true) (ex_assign _) ?_
    simp only [pS, pN, pA, pC, pZ]
    refine wl_nil (hK100 _ _ ?_)
    refine wp_cond_true rfl ?_
    obtain ⟨i, hi, hil, hif⟩ := idxE_some hc41
    rw [hi]
    obtain ⟨g101, rfl⟩ := Own.addr0 (S98.own (i := 1) rfl) (by omega)
    refine region_wl ?_
    refine do_ rfl (.pointer (some ⟨n32, 2, none⟩)) (ex_field (q := ⟨n32, 2, none⟩) rfl (fa_75_2 _ _)) ?_
    simp only [pS, pN, pA, pC, pZ]
    refine do_ rfl (.slice (some ⟨g101, 0, none⟩) t.writes.length c25) (ex_load rfl (load1 (nagg_44 _) (St.cell S98 (i := 0) rfl rfl))) ?_
    simp only [pS, pN, pA, pC, pZ]
    refine do_ rfl (.int .i64 ((i : Nat) : Int)) (ex_move _) ?_
    simp only [pS, pN, pA, pC, pZ]
    refine do_ rfl (.agg #[(.slice xa60 r.name.length xc61), (.slice xa64 r.key.length xc65), (.bool r.gone), (.slice xa69 r.value.length xc70)]) (ex_load rfl (loadN (cs := [(.slice xa60 r.name.length xc61), (.slice xa64 r.key.length xc65), (.bool r.gone), (.slice xa69 r.value.length xc70)]) Try.underlying27 rfl (size_27) (range4 (St.fz S98 (hc77 0 _ rfl)) (St.fz S98 (hc77 1 _ rfl)) (St.fz S98 (hc77 2 _ rfl)) (St.fz S98 (hc77 3 _ rfl))))) ?_
    simp only [pS, pN, pA, pC, pZ]
    refine do_ rfl (.pointer (some ⟨g101, 0 + i * 4, none⟩)) (ex_at (i := i) (sz := 4) Try.underlying44 (sizeof_27 _) rfl rfl rfl (by omega) rfl) ?_
    simp only [pS, pN, pA, pC, pZ]
    refine stSetRow (r := 1) (i := i) (p := r) (u := (.agg #[(.slice xa60 r.name.length xc61), (.slice xa64 r.key.length xc65), (.bool r.gone), (.slice xa69 r.value.length xc70)])) S98 rfl rfl (by omega) rfl rfl (by omega) (size_27) (allc4 rfl rfl rfl rfl) rfl ⟨_, _, _, _, rfl, (r62.mono le76), (r66.mono le76), rfl, (r71.mono le76)⟩ (Nat.le_refl _) (fun w102 S103 => ?_)
    simp only [pS, pN, pA, pC, pZ]
    have S103 : St w F w102 F78 [⟨n32, [(.int .i64 t.start), (.slice a22 t.reads.length c23), (.slice (some ⟨g101, 0, none⟩) t.writes.length c25)], 75⟩, ⟨n8, [(.int .i64 0), (.slice none 0 0), (.slice none 0 0)], 75⟩, ⟨n2, [(.int .i64 t.start), (.slice x0 t.reads.length y0), (.slice x1 t.writes.length y1)], 75⟩] [ownP 4 RdC RdC.mono 83 w.heap.size (.slice a22 t.reads.length c23) t.reads, ownP 4 WrC WrC.mono 27 w.heap.size (.slice (some ⟨g101, 0, none⟩) t.writes.length c25) (t.writes.set i r)] := S103
    refine wl_nil (hK99 _ _ ?_)
    refine wp_seq_k (fun K104 hK104 => ?_)
    obtain ⟨F105, S106, le107, hv108⟩ := St.freeze S103 (i := 0) rfl (Nat.le_refl _)
    have S106 : St w F w102 F105 [⟨n32, [(.int .i64 t.start), (.slice a22 t.reads.length c23), (.slice (some ⟨g101, 0, none⟩) t.writes.length c25)], 75⟩, ⟨n8, [(.int .i64 0), (.slice none 0 0), (.slice none 0 0)], 75⟩, ⟨n2, [(.int .i64 t.start), (.slice x0 t.reads.length y0), (.slice x1 t.writes.length y1)], 75⟩] [ownP 4 WrC WrC.mono 27 w.heap.size (.slice (some ⟨g101, 0, none⟩) t.writes.length c25) (t.writes.set i r)] := S106
    have hv108 : Rds _ (.slice a22 t.reads.length c23) t.reads := hv108
    obtain ⟨F109, S110, le111, hv112⟩ := St.freeze S106 (i := 0) rfl (Nat.le_refl _)
    have S110 : St w F w102 F109 [⟨n32, [(.int .i64 t.start), (.slice a22 t.reads.length c23), (.slice (some ⟨g101, 0, none⟩) t.writes.length c25)], 75⟩, ⟨n8, [(.int .i64 0), (.slice none 0 0), (.slice none 0 0)], 75⟩, ⟨n2, [(.int .i64 t.start), (.slice x0 t.reads.length y0), (.slice x1 t.writes.length y1)], 75⟩] [] := S110
    have hv112 : Wrs _ (.slice (some ⟨g101, 0, none⟩) t.writes.length c25) (t.writes.set i r) := hv112
    refine region_wl ?_
    refine do_ rfl (.agg #[(.int .i64 t.start), (.slice a22 t.reads.length c23), (.slice (some ⟨g101, 0, none⟩) t.writes.length c25)]) (ex_load rfl (loadN (cs := [(.int .i64 t.start), (.slice a22 t.reads.length c23), (.slice (some ⟨g101, 0, none⟩) t.writes.length c25)]) Try.underlying75 rfl (size_75) (St.range S110 (i := 0) rfl 0 [(.int .i64 t.start), (.slice a22 t.reads.length c23), (.slice (some ⟨g101, 0, none⟩) t.writes.length c25)] (sub_range 0 rfl)))) ?_
    simp only [pS, pN, pA, pC, pZ]
    refine stStore (i := 1) (v := (.agg #[(.int .i64 t.start), (.slice a22 t.reads.length c23), (.slice (some ⟨g101, 0, none⟩) t.writes.length c25)])) S110 rfl rfl rfl rfl (size_75) (allc3 rfl rfl rfl) (Nat.le_of_ble_eq_true rfl) (fun w113 S114 => ?_)
    simp only [pS, pN, pA, pC, pZ]
    have S114 : St w F w113 F109 [⟨n32, [(.int .i64 t.start), (.slice a22 t.reads.length c23), (.slice (some ⟨g101, 0, none⟩) t.writes.length c25)], 75⟩, ⟨n8, [(.int .i64 t.start), (.slice a22 t.reads.length c23), (.slice (some ⟨g101, 0, none⟩) t.writes.length c25)], 75⟩, ⟨n2, [(.int .i64 t.start), (.slice x0 t.reads.length y0), (.slice x1 t.writes.length y1)], 75⟩] [] := S114
    refine do_ rfl (.int .i64 0) (ex_assign _) ?_
    simp only [pS, pN, pA, pC, pZ]
    refine wl_nil (hK104 _ _ ?_)
    refine wp_ret ?_
    (try simp only [Exit.then, Exit.inBlock, ↓reduceIte, Nat.reduceEqDiff])
    refine bodyPost_ret (v := (.tuple #[(.agg #[(.int .i64 t.start), (.slice a22 t.reads.length c23), (.slice (some ⟨g101, 0, none⟩) t.writes.length c25)]), (.int .i64 0)])) ?_ rfl ?_
    ·exact res_ct rfl ⟨_, rfl, loadN (cs := [(.int .i64 t.start), (.slice a22 t.reads.length c23), (.slice (some ⟨g101, 0, none⟩) t.writes.length c25)]) Try.underlying75 rfl (size_75) (St.range S114 (i := 1) rfl 0 [(.int .i64 t.start), (.slice a22 t.reads.length c23), (.slice (some ⟨g101, 0, none⟩) t.writes.length c25)] (sub_range 0 rfl))⟩ rfl
    ·obtain ⟨he, hT⟩ := writeE_ok ht hr (show writeX t r = some ⟨t.start, t.reads, t.writes.set i r⟩ by unfold writeX idxW; rw [hif])
     rw [he, hT]
     exact ⟨_, _, rfl, S114.gr, _, rfl, _, _, _, _, (show _ = Value.agg #[.int .i64 t.start, (.slice a22 t.reads.length c23), (.slice (some ⟨g101, 0, none⟩) (t.writes.set i r).length c25)] from by rw [List.length_set]), (hv108.mono le111), (show Wrs _ (.slice (some ⟨g101, 0, none⟩) (t.writes.set i r).length c25) (t.writes.set i r) from by rw [List.length_set]; exact hv112)⟩
   ·refine do_ rfl (.bool false) (ex_geq (m := (idxE t.writes (fun q => samePl q r))) (n := (0 : Int)) (b := false) rfl rfl (decide_eq_false (by omega))) ?_
    simp only [pS, pN, pA, pC, pZ]
    refine do_ rfl (.bool false) (ex_assign _) ?_
    simp only [pS, pN, pA, pC, pZ]
    refine wl_nil (hK100 _ _ ?_)
    refine wp_cond_false rfl ?_
    refine wp_seq_k (fun K115 hK115 => region_wl ?_)
    refine do_ rfl (.pointer (some ⟨n32, 2, none⟩)) (ex_field (q := ⟨n32, 2, none⟩) rfl (fa_75_2 _ _)) ?_
    simp only [pS, pN, pA, pC, pZ]
    refine do_ rfl (.slice a24 t.writes.length c25) (ex_load rfl (load1 (nagg_44 _) (St.cell S98 (i := 0) rfl rfl))) ?_
    simp only [pS, pN, pA, pC, pZ]
    refine do_ rfl (.int .i64 ((t.writes.length : Nat) : Int)) (ex_len Try.underlying44 rfl) ?_
    simp only [pS, pN, pA, pC, pZ]
    by_cases hc51 : t.writes.length = 10
    ·refine do_ rfl (.bool true) (ex_eql (m := ((t.writes.length : Nat) : Int)) (n := (10 : Int)) (b := true) rfl rfl (beq_iff_eq.2 (by omega))) ?_
     simp only [pS, pN, pA, pC, pZ]
     refine do_ rfl (.bool true) (ex_assign _) ?_
     simp only [pS, pN, pA, pC, pZ]
     refine wl_nil (hK115 _ _ ?_)
     refine wp_cond_true rfl ?_
     refine wp_seq_k (fun K116 hK116 => region_wl ?_)
     refine do_ rfl (.agg #[(.int .i64 0), (.slice none 0 0), (.slice none 0 0)]) (ex_build (ps := #[]) (bmap0) (by kernel_rfl)) ?_
     simp only [pS, pN, pA, pC, pZ]
     refine stStore (i := 1) (v := (.agg #[(.int .i64 0), (.slice none 0 0), (.slice none 0 0)])) S98 rfl rfl rfl rfl (size_75) (allc3 rfl rfl rfl) (Nat.le_of_ble_eq_true rfl) (fun w117 S118 => ?_)
     simp only [pS, pN, pA, pC, pZ]
     have S118 : St w F w117 F78 [⟨n32, [(.int .i64 t.start), (.slice a22 t.reads.length c23), (.slice a24 t.writes.length c25)], 75⟩, ⟨n8, [(.int .i64 0), (.slice none 0 0), (.slice none 0 0)], 75⟩, ⟨n2, [(.int .i64 t.start), (.slice x0 t.reads.length y0), (.slice x1 t.writes.length y1)], 75⟩] [ownP 4 RdC RdC.mono 83 w.heap.size (.slice a22 t.reads.length c23) t.reads, ownP 4 WrC WrC.mono 27 w.heap.size (.slice a24 t.writes.length c25) t.writes] := S118
     refine do_ rfl (.int .i64 11) (ex_assign _) ?_
     simp only [pS, pN, pA, pC, pZ]
     refine wl_nil (hK116 _ _ ?_)
     refine wp_ret ?_
     (try simp only [Exit.then, Exit.inBlock, ↓reduceIte, Nat.reduceEqDiff])
     refine bodyPost_ret (v := (.tuple #[(.agg #[(.int .i64 0), (.slice none 0 0), (.slice none 0 0)]), (.int .i64 11)])) ?_ rfl ?_
     ·exact res_ct rfl ⟨_, rfl, loadN (cs := [(.int .i64 0), (.slice none 0 0), (.slice none 0 0)]) Try.underlying75 rfl (size_75) (St.range S118 (i := 1) rfl 0 [(.int .i64 0), (.slice none 0 0), (.slice none 0 0)] (sub_range 0 rfl))⟩ rfl
     ·obtain ⟨he, hT⟩ := writeE_full ht hr (show writeX t r = none by unfold writeX idxW; rw [idxE_neg hc41]; simp only; rw [if_pos (by omega)])
      rw [he, hT]
      exact ⟨_, _, rfl, S118.gr, _, rfl, _, _, _, _, rfl, (Sl.nil _ _ _), (Sl.nil _ _ _)⟩
    ·refine do_ rfl (.bool false) (ex_eql (m := ((t.writes.length : Nat) : Int)) (n := (10 : Int)) (b := false) rfl rfl (beq_eq_false_iff_ne.2 (by omega))) ?_
     simp only [pS, pN, pA, pC, pZ]
     refine do_ rfl (.bool false) (ex_assign _) ?_
     simp only [pS, pN, pA, pC, pZ]
     refine wl_nil (hK115 _ _ ?_)
     refine wp_cond_false rfl ?_
     refine region_wl ?_
     refine do_ rfl (.pointer (some ⟨n32, 2, none⟩)) (ex_field (q := ⟨n32, 2, none⟩) rfl (fa_75_2 _ _)) ?_
     simp only [pS, pN, pA, pC, pZ]
     refine do_ rfl (.slice a24 t.writes.length c25) (ex_load rfl (load1 (nagg_44 _) (St.cell S98 (i := 0) rfl rfl))) ?_
     simp only [pS, pN, pA, pC, pZ]
     refine do_ rfl (.agg #[(.slice xa60 r.name.length xc61), (.slice xa64 r.key.length xc65), (.bool r.gone), (.slice xa69 r.value.length xc70)]) (ex_load rfl (loadN (cs := [(.slice xa60 r.name.length xc61), (.slice xa64 r.key.length xc65), (.bool r.gone), (.slice xa69 r.value.length xc70)]) Try.underlying27 rfl (size_27) (range4 (St.fz S98 (hc77 0 _ rfl)) (St.fz S98 (hc77 1 _ rfl)) (St.fz S98 (hc77 2 _ rfl)) (St.fz S98 (hc77 3 _ rfl))))) ?_
     simp only [pS, pN, pA, pC, pZ]
     refine stNew S98 (v := fun n => .slice (some ⟨n, 0, none⟩) 1 1) rfl (ex_lit (ps := #[(0, (.agg #[(.slice xa60 r.name.length xc61), (.slice xa64 r.key.length xc65), (.bool r.gone), (.slice xa69 r.value.length xc70)]))]) (cells := #[(.slice xa60 r.name.length xc61), (.slice xa64 r.key.length xc65), (.bool r.gone), (.slice xa69 r.value.length xc70)]) (E := 27) (bmap1 rfl) (fun w => by kernel_rfl)) (fun n119 w120 S121 => ?_)
     simp only [pS, pN, pA, pC, pZ]
     have S121 : St w F w120 F78 [⟨n119, [(.slice xa60 r.name.length xc61), (.slice xa64 r.key.length xc65), (.bool r.gone), (.slice xa69 r.value.length xc70)], 27⟩, ⟨n32, [(.int .i64 t.start), (.slice a22 t.reads.length c23), (.slice a24 t.writes.length c25)], 75⟩, ⟨n8, [(.int .i64 0), (.slice none 0 0), (.slice none 0 0)], 75⟩, ⟨n2, [(.int .i64 t.start), (.slice x0 t.reads.length y0), (.slice x1 t.writes.length y1)], 75⟩] [ownP 4 RdC RdC.mono 83 w.heap.size (.slice a22 t.reads.length c23) t.reads, ownP 4 WrC WrC.mono 27 w.heap.size (.slice a24 t.writes.length c25) t.writes] := S121
     refine stPush (i := 0) (r := 1) (p := r) (cs := [(.slice xa60 r.name.length xc61), (.slice xa64 r.key.length xc65), (.bool r.gone), (.slice xa69 r.value.length xc70)]) S121 rfl i27 (.agg #[(.slice none 0 0), (.slice none 0 0), (.bool false), (.slice none 0 0)]) 80 Try.underlying44 hi27 hz27 hs27 hb27 rfl (by decide) rfl rfl rfl rfl rfl (WrC.oneCell (p := r) ⟨_, _, _, _, rfl, (r62.mono le76), (r66.mono le76), rfl, (r71.mono le76)⟩) (⟨_, _, _, _, rfl, (r62.mono le76), (r66.mono le76), rfl, (r71.mono le76)⟩) (Nat.le_refl _) S121.gr.below.size (by unfold maxLen; omega) (by omega) ?_
     intro v122 w123 S124 hn125
     simp only [pS, pN, pA, pC, pZ]
     have S124 := St.drop S124 (L' := [⟨n32, [(.int .i64 t.start), (.slice a22 t.reads.length c23), (.slice a24 t.writes.length c25)], 75⟩, ⟨n8, [(.int .i64 0), (.slice none 0 0), (.slice none 0 0)], 75⟩, ⟨n2, [(.int .i64 t.start), (.slice x0 t.reads.length y0), (.slice x1 t.writes.length y1)], 75⟩]) (.cons _ (List.Sublist.refl _))
     have S124 : St w F w123 F78 [⟨n32, [(.int .i64 t.start), (.slice a22 t.reads.length c23), (.slice a24 t.writes.length c25)], 75⟩, ⟨n8, [(.int .i64 0), (.slice none 0 0), (.slice none 0 0)], 75⟩, ⟨n2, [(.int .i64 t.start), (.slice x0 t.reads.length y0), (.slice x1 t.writes.length y1)], 75⟩] [ownP 4 RdC RdC.mono 83 w.heap.size (.slice a22 t.reads.length c23) t.reads, ownP 4 WrC WrC.mono 27 w.heap.size v122 (t.writes ++ [r])] := S124
     obtain ⟨a126, cap127, rfl, h128, h129⟩ := (S124.own (i := 1) rfl).shape
     unfold maxLen at h129
     refine do_ rfl (.pointer (some ⟨n32, 2, none⟩)) (ex_field (q := ⟨n32, 2, none⟩) rfl (fa_75_2 _ _)) ?_
     simp only [pS, pN, pA, pC, pZ]
     refine stStore (i := 0) (v := (.slice a126 (t.writes ++ [r]).length cap127)) S124 rfl rfl rfl rfl (size_44) (allc1 rfl) (Nat.le_of_ble_eq_true rfl) (fun w130 S131 => ?_)
     simp only [pS, pN, pA, pC, pZ]
     have S131 : St w F w130 F78 [⟨n32, [(.int .i64 t.start), (.slice a22 t.reads.length c23), (.slice a126 (t.writes ++ [r]).length cap127)], 75⟩, ⟨n8, [(.int .i64 0), (.slice none 0 0), (.slice none 0 0)], 75⟩, ⟨n2, [(.int .i64 t.start), (.slice x0 t.reads.length y0), (.slice x1 t.writes.length y1)], 75⟩] [ownP 4 RdC RdC.mono 83 w.heap.size (.slice a22 t.reads.length c23) t.reads, ownP 4 WrC WrC.mono 27 w.heap.size (.slice a126 (t.writes ++ [r]).length cap127) (t.writes ++ [r])] := S131
     refine wl_nil (hK99 _ _ ?_)
     refine wp_seq_k (fun K132 hK132 => ?_)
     obtain ⟨F133, S134, le135, hv136⟩ := St.freeze S131 (i := 0) rfl (Nat.le_refl _)
     have S134 : St w F w130 F133 [⟨n32, [(.int .i64 t.start), (.slice a22 t.reads.length c23), (.slice a126 (t.writes ++ [r]).length cap127)], 75⟩, ⟨n8, [(.int .i64 0), (.slice none 0 0), (.slice none 0 0)], 75⟩, ⟨n2, [(.int .i64 t.start), (.slice x0 t.reads.length y0), (.slice x1 t.writes.length y1)], 75⟩] [ownP 4 WrC WrC.mono 27 w.heap.size (.slice a126 (t.writes ++ [r]).length cap127) (t.writes ++ [r])] := S134
     have hv136 : Rds _ (.slice a22 t.reads.length c23) t.reads := hv136
     obtain ⟨F137, S138, le139, hv140⟩ := St.freeze S134 (i := 0) rfl (Nat.le_refl _)
     have S138 : St w F w130 F137 [⟨n32, [(.int .i64 t.start), (.slice a22 t.reads.length c23), (.slice a126 (t.writes ++ [r]).length cap127)], 75⟩, ⟨n8, [(.int .i64 0), (.slice none 0 0), (.slice none 0 0)], 75⟩, ⟨n2, [(.int .i64 t.start), (.slice x0 t.reads.length y0), (.slice x1 t.writes.length y1)], 75⟩] [] := S138
     have hv140 : Wrs _ (.slice a126 (t.writes ++ [r]).length cap127) (t.writes ++ [r]) := hv140
     refine region_wl ?_
     refine do_ rfl (.agg #[(.int .i64 t.start), (.slice a22 t.reads.length c23), (.slice a126 (t.writes ++ [r]).length cap127)]) (ex_load rfl (loadN (cs := [(.int .i64 t.start), (.slice a22 t.reads.length c23), (.slice a126 (t.writes ++ [r]).length cap127)]) Try.underlying75 rfl (size_75) (St.range S138 (i := 0) rfl 0 [(.int .i64 t.start), (.slice a22 t.reads.length c23), (.slice a126 (t.writes ++ [r]).length cap127)] (sub_range 0 rfl)))) ?_
     simp only [pS, pN, pA, pC, pZ]
     refine stStore (i := 1) (v := (.agg #[(.int .i64 t.start), (.slice a22 t.reads.length c23), (.slice a126 (t.writes ++ [r]).length cap127)])) S138 rfl rfl rfl rfl (size_75) (allc3 rfl rfl rfl) (Nat.le_of_ble_eq_true rfl) (fun w141 S142 => ?_)
     simp only [pS, pN, pA, pC, pZ]
     have S142 : St w F w141 F137 [⟨n32, [(.int .i64 t.start), (.slice a22 t.reads.length c23), (.slice a126 (t.writes ++ [r]).length cap127)], 75⟩, ⟨n8, [(.int .i64 t.start), (.slice a22 t.reads.length c23), (.slice a126 (t.writes ++ [r]).length cap127)], 75⟩, ⟨n2, [(.int .i64 t.start), (.slice x0 t.reads.length y0), (.slice x1 t.writes.length y1)], 75⟩] [] := S142
     refine do_ rfl (.int .i64 0) (ex_assign _) ?_
     simp only [pS, pN, pA, pC, pZ]
     refine wl_nil (hK132 _ _ ?_)
     refine wp_ret ?_
     (try simp only [Exit.then, Exit.inBlock, ↓reduceIte, Nat.reduceEqDiff])
     refine bodyPost_ret (v := (.tuple #[(.agg #[(.int .i64 t.start), (.slice a22 t.reads.length c23), (.slice a126 (t.writes ++ [r]).length cap127)]), (.int .i64 0)])) ?_ rfl ?_
     ·exact res_ct rfl ⟨_, rfl, loadN (cs := [(.int .i64 t.start), (.slice a22 t.reads.length c23), (.slice a126 (t.writes ++ [r]).length cap127)]) Try.underlying75 rfl (size_75) (St.range S142 (i := 1) rfl 0 [(.int .i64 t.start), (.slice a22 t.reads.length c23), (.slice a126 (t.writes ++ [r]).length cap127)] (sub_range 0 rfl))⟩ rfl
     ·obtain ⟨he, hT⟩ := writeE_ok ht hr (show writeX t r = some ⟨t.start, t.reads, t.writes ++ [r]⟩ by unfold writeX idxW; rw [idxE_neg hc41]; simp only; rw [if_neg (by omega)])
      rw [he, hT]
      exact ⟨_, _, rfl, S142.gr, _, rfl, _, _, _, _, rfl, (hv136.mono le139), hv140⟩
  ·refine do_ rfl (.bool true) (ex_neq (m := (wrE r)) (n := (0 : Int)) (b := true) rfl rfl (bne_iff_ne.2 (by omega))) ?_
   simp only [pS, pN, pA, pC, pZ]
   refine wl_nil (hK20 _ _ ?_)
   refine wp_cond_true rfl ?_
   refine wp_seq_k (fun K143 hK143 => region_wl ?_)
   refine do_ rfl (.agg #[(.int .i64 0), (.slice none 0 0), (.slice none 0 0)]) (ex_build (ps := #[]) (bmap0) (by kernel_rfl)) ?_
   simp only [pS, pN, pA, pC, pZ]
   refine do_ rfl (.int .i64 (wrE r)) (ex_move _) ?_
   simp only [pS, pN, pA, pC, pZ]
   refine stStore (i := 0) (v := (.agg #[(.int .i64 0), (.slice none 0 0), (.slice none 0 0)])) S19 rfl rfl rfl rfl (size_75) (allc3 rfl rfl rfl) (Nat.le_of_ble_eq_true rfl) (fun w144 S145 => ?_)
   simp only [pS, pN, pA, pC, pZ]
   have S145 : St w F w144 F [⟨n8, [(.int .i64 0), (.slice none 0 0), (.slice none 0 0)], 75⟩, ⟨n5, [(.slice z0 r.name.length z1), (.slice z2 r.key.length z3), (.bool r.gone), (.slice z4 r.value.length z5)], 27⟩, ⟨n2, [(.int .i64 t.start), (.slice x0 t.reads.length y0), (.slice x1 t.writes.length y1)], 75⟩] [] := S145
   refine do_ rfl (.int .i64 (wrE r)) (ex_assign _) ?_
   simp only [pS, pN, pA, pC, pZ]
   refine wl_nil (hK143 _ _ ?_)
   refine wp_ret ?_
   (try simp only [Exit.then, Exit.inBlock, ↓reduceIte, Nat.reduceEqDiff])
   refine bodyPost_ret (v := (.tuple #[(.agg #[(.int .i64 0), (.slice none 0 0), (.slice none 0 0)]), (.int .i64 (wrE r))])) ?_ rfl ?_
   ·exact res_ct rfl ⟨_, rfl, loadN (cs := [(.int .i64 0), (.slice none 0 0), (.slice none 0 0)]) Try.underlying75 rfl (size_75) (St.range S145 (i := 0) rfl 0 [(.int .i64 0), (.slice none 0 0), (.slice none 0 0)] (sub_range 0 rfl))⟩ rfl
   ·have he : writeE t r = wrE r := by unfold writeE; rw [if_neg (by omega), if_pos hc19]
    have hT : writeT t r = nilX := by unfold writeT; rw [if_pos (by rw [he]; exact hc19)]
    rw [he, hT]
    exact ⟨_, _, rfl, S145.gr, _, rfl, _, _, _, _, rfl, (Sl.nil _ _ _), (Sl.nil _ _ _)⟩
 ·refine do_ rfl (.bool true) (ex_neq (m := (txE t)) (n := (0 : Int)) (b := true) rfl rfl (bne_iff_ne.2 (by omega))) ?_
  simp only [pS, pN, pA, pC, pZ]
  refine wl_nil (hK15 _ _ ?_)
  refine wp_cond_true rfl ?_
  refine wp_seq_k (fun K146 hK146 => region_wl ?_)
  refine do_ rfl (.agg #[(.int .i64 0), (.slice none 0 0), (.slice none 0 0)]) (ex_build (ps := #[]) (bmap0) (by kernel_rfl)) ?_
  simp only [pS, pN, pA, pC, pZ]
  refine do_ rfl (.int .i64 (txE t)) (ex_move _) ?_
  simp only [pS, pN, pA, pC, pZ]
  refine stStore (i := 0) (v := (.agg #[(.int .i64 0), (.slice none 0 0), (.slice none 0 0)])) S14 rfl rfl rfl rfl (size_75) (allc3 rfl rfl rfl) (Nat.le_of_ble_eq_true rfl) (fun w147 S148 => ?_)
  simp only [pS, pN, pA, pC, pZ]
  have S148 : St w F w147 F [⟨n8, [(.int .i64 0), (.slice none 0 0), (.slice none 0 0)], 75⟩, ⟨n5, [(.slice z0 r.name.length z1), (.slice z2 r.key.length z3), (.bool r.gone), (.slice z4 r.value.length z5)], 27⟩, ⟨n2, [(.int .i64 t.start), (.slice x0 t.reads.length y0), (.slice x1 t.writes.length y1)], 75⟩] [] := S148
  refine do_ rfl (.int .i64 (txE t)) (ex_assign _) ?_
  simp only [pS, pN, pA, pC, pZ]
  refine wl_nil (hK146 _ _ ?_)
  refine wp_ret ?_
  (try simp only [Exit.then, Exit.inBlock, ↓reduceIte, Nat.reduceEqDiff])
  refine bodyPost_ret (v := (.tuple #[(.agg #[(.int .i64 0), (.slice none 0 0), (.slice none 0 0)]), (.int .i64 (txE t))])) ?_ rfl ?_
  ·exact res_ct rfl ⟨_, rfl, loadN (cs := [(.int .i64 0), (.slice none 0 0), (.slice none 0 0)]) Try.underlying75 rfl (size_75) (St.range S148 (i := 0) rfl 0 [(.int .i64 0), (.slice none 0 0), (.slice none 0 0)] (sub_range 0 rfl))⟩ rfl
  ·have he : writeE t r = txE t := by unfold writeE; rw [if_pos hc13]
   have hT : writeT t r = nilX := by unfold writeT; rw [if_pos (by rw [he]; exact hc13)]
   rw [he, hT]
   exact ⟨_, _, rfl, S148.gr, _, rfl, _, _, _, _, rfl, (Sl.nil _ _ _), (Sl.nil _ _ _)⟩
end Go.Proofs.Ytcpngkkconalhaa
