/- Rules, plain laws and walks: K7 X5 -/
import Derived.Test.YtcpngkkconalhaaBU11
import Derived.Test.YtcpngkkconalhaaBU8
namespace Go.Proofs.Ytcpngkkconalhaa
open Go.RowKit
set_option maxRecDepth 100000
set_option linter.unusedVariables false
set_option linter.unusedSimpArgs false
theorem TxV.dropT {w : World} {F : Fz} {n : Nat} {T : TypeId} (hs : Sat w F) (hb : w.heap[n]? = some (.cells [Value.int .i64 0, Value.slice none 0 0, Value.slice none 0 0].toArray T (0, 0))) (hc : ∀ u ∈ [Value.int .i64 0, Value.slice none 0 0, Value.slice none 0 0], ∀ x, u ≠ bv x) {u : Value} {t : Tx} (h : TxV F u t) : TxV (dropF F n) u t := by
  obtain ⟨x0, y0, x1, y1, rfl, h0, h1⟩ := h
  exact ⟨x0, y0, x1, y1, rfl, Rds.dropF hs hb hc (by simp) h0, Wrs.dropF hs hb hc (by simp) h1⟩
theorem txnWriteIs_spec (F : Fz) (w : World) (v u : Value) (t : Tx) (r : Wr) (t' : Tx) (hs : Sat w F) (hv : TxV F v t) (hu : WrV F u r) (ht : TxOk t) (hr : WrOk r) (e : writeX t r = some t') :
    Calls Try.prog 42 #[v, u] w (Gives w F fun F' u => TxE F' u t' 0) := by
  have := txnWriteT_spec F w v u t r hs hv hu (fun x hx => (ht.writes x hx).small) hr.small
  obtain ⟨h1, h2⟩ := writeE_ok ht hr e
  rwa [h1, h2] at this
theorem txnNoteIs_spec (F : Fz) (w : World) (v u : Value) (t : Tx) (r : Rd) (t' : Tx) (hs : Sat w F) (hv : TxV F v t) (hu : RdV F u r) (ht : TxOk t) (hr : RdOk r) (e : noteX t r = some t') :
    Calls Try.prog 46 #[v, u] w (Gives w F fun F' u => TxE F' u t' 0) := by
  have := txnNote_spec F w v u t r hs hv hu (fun x hx => (ht.writes x hx).small)
  obtain ⟨h1, h2⟩ := noteE_ok ht hr e
  rwa [h1, h2] at this
theorem txnCheckOk_spec (F : Fz) (w : World) (v : Value) (t : Tx) (hs : Sat w F) (hv : TxV F v t) (ht : TxOk t) :
    Calls Try.prog 51 #[v] w (Tells w (.int .i64 0)) := by
  have := txnCheck_spec F w v t hs hv (fun x hx => (ht.writes x hx).small)
  rwa [txE_ok.2 ht] at this
theorem txW_step {l : List Pl} {k : Nat} {p : Pl} (hp : l[k]? = some p) (hk : k < 10) : writeX (txW (writesN l k)) (writeP p) = some (txW (writesN l (k + 1))) := by
  have h := txW_ok (writesN l k) (writesN_ok l k) (by have := writesN_len l k; omega)
  obtain ⟨u, hu⟩ := writeX_room (t := txW (writesN l k)) (w := writeP p) (by have := writesN_len l k; omega)
  rw [writesN_succ hp, txW_snoc, hu]; rfl
theorem txR_step {t : Tx} (ht : TxOk t) (h0 : t.reads = []) {l : List Pl} {k : Nat} {p : Pl} (hp : l[k]? = some p) (hk : k < 20) : noteX (txR t (readsN l k)) (readP p) = some (txR t (readsN l (k + 1))) := by
  have h := txR_ok ht h0 (readsN l k) (readsN_ok l k) (by have := readsN_len l k; omega)
  obtain ⟨u, hu⟩ := noteX_room (t := txR t (readsN l k)) (r := readP p) (by have := readsN_len l k; omega)
  rw [readsN_succ hp, txR_snoc, hu]; rfl
def txO (l m : List Pl) : Tx := txR (txW (writesN l 8)) (readsN m 8)
theorem txO_ok (l m : List Pl) : TxOk (txO l m) ∧ (txO l m).start = 0 ∧ (txO l m).writes = (txW (writesN l 8)).writes ∧ (txO l m).reads.length ≤ 8 ∧ (txO l m).writes.length ≤ 8 := by
  have h := txW_ok (writesN l 8) (writesN_ok l 8) (by have := writesN_len l 8; omega)
  have k := txR_ok h.1 h.2.2.1 (readsN m 8) (readsN_ok m 8) (by have := readsN_len m 8; omega)
  have h1 := writesN_len l 8
  have h2 := readsN_len m 8
  refine ⟨k.1, k.2.2.2.trans h.2.2.2, k.2.2.1, Nat.le_trans k.2.1 h2, ?_⟩
  show (txR _ _).writes.length ≤ 8
  rw [k.2.2.1]; omega
set_option maxHeartbeats 8000000 in
theorem keepRead_spec (F : Fz) (w : World) (v : Value) (p : Pl) (hs : Sat w F) (hv : PlV F v p) :
    Calls Try.prog 45 #[v] w (Gives w F fun F' u => RdV F' u (readP p)) := by
 obtain ⟨x0, y0, x1, y1, x2, y2, rfl, h0, h1, h2⟩ := hv
 have S := St.start hs
 go_enter Try.func45, Try.ntmps45
 refine wp_seq_k (fun K1 hK1 => region_wl ?_)
 refine stNew S (v := fun n => .pointer (some ⟨n, 0, none⟩)) rfl (ex_box (v := (.agg #[(.slice x0 p.name.length y0), (.slice x1 p.key.length y1), (.slice x2 p.value.length y2), (.bool p.gone)])) rfl) (fun n2 w3 S4 => ?_)
 simp only [pS, pN, pA, pC, pZ]
 have S4 : St w F w3 F [⟨n2, [(.slice x0 p.name.length y0), (.slice x1 p.key.length y1), (.slice x2 p.value.length y2), (.bool p.gone)], 30⟩] [] := S4
 refine stNew S4 (v := fun n => .pointer (some ⟨n, 0, none⟩)) rfl (ex_alloc (zero_83 _)) (fun n5 w6 S7 => ?_)
 simp only [pS, pN, pA, pC, pZ]
 have S7 : St w F w6 F [⟨n5, [(.slice none 0 0), (.slice none 0 0), (.bool false), (.slice none 0 0)], 83⟩, ⟨n2, [(.slice x0 p.name.length y0), (.slice x1 p.key.length y1), (.slice x2 p.value.length y2), (.bool p.gone)], 30⟩] [] := S7
 refine wl_nil (hK1 _ _ ?_)
 refine wp_seq_k (fun K8 hK8 => ?_)
 refine region_gw F 10 [(2, .made (fun F' u => Bs F' u (nameL p.name))), (5, .made (fun F' u => Bs F' u (keyL p.key))), (8, .made (fun F' u => RdV F' u (⟨(nameL p.name), (keyL p.key), p.gone, ([] : By)⟩ : Rd))), (9, .rel (NewAt w6 [(.slice none 0 0), (.slice none 0 0), (.bool false), (.slice none 0 0)] 83) (NewAt.stable _ _ _))] (by kernel_rfl) (by kernel_rfl) ?_
 simp only [List.take_succ_cons, List.take_zero]
 refine gw_pure rfl rfl (.pointer (some ⟨n2, 0, none⟩)) (fun w9 hCw9 => pureAt_of (ex_field (q := ⟨n2, 0, none⟩) rfl (fa_30_0 _ _))) ?_
 simp only [pS, pN, pA, pC, pZ]
 refine gw_pure rfl rfl (.slice x0 p.name.length y0) (fun w9 hCw9 => pureAt_of (ex_load rfl (load1 (nagg_25 _) (St.cell (St.tells S7 hCw9) (i := 1) rfl rfl)))) ?_
 simp only [pS, pN, pA, pC, pZ]
 refine gw_rel rfl rfl (fun w9 hCw9 hF => does_call (ex_fn (vs := #[(.slice x0 p.name.length y0)]) (map1 rfl) rfl (ent_52 _ _)) (call_made S7.sat hCw9 (name_spec _ _ _ p.name ((St.tells S7 hCw9)).sat h0))) (fun v10 => ?_)
 simp only [pS, pN, pA, pC, pZ]
 refine gw_pure rfl rfl (.pointer (some ⟨n2, 1, none⟩)) (fun w9 hCw9 => pureAt_of (ex_field (q := ⟨n2, 1, none⟩) rfl (fa_30_1 _ _))) ?_
 simp only [pS, pN, pA, pC, pZ]
 refine gw_pure rfl rfl (.slice x1 p.key.length y1) (fun w9 hCw9 => pureAt_of (ex_load rfl (load1 (nagg_25 _) (St.cell (St.tells S7 hCw9) (i := 1) rfl rfl)))) ?_
 simp only [pS, pN, pA, pC, pZ]
 refine gw_rel rfl rfl (fun w9 hCw9 hF => does_call (ex_fn (vs := #[(.slice x1 p.key.length y1)]) (map1 rfl) rfl (ent_28 _ _)) (call_made S7.sat hCw9 (key_spec _ _ _ p.key ((St.tells S7 hCw9)).sat h1))) (fun v11 => ?_)
 simp only [pS, pN, pA, pC, pZ]
 refine gw_pure rfl rfl (.pointer (some ⟨n2, 3, none⟩)) (fun w9 hCw9 => pureAt_of (ex_field (q := ⟨n2, 3, none⟩) rfl (fa_30_3 _ _))) ?_
 simp only [pS, pN, pA, pC, pZ]
 refine gw_pure rfl rfl (.bool p.gone) (fun w9 hCw9 => pureAt_of (ex_load rfl (load1 (nagg_4 _) (St.cell (St.tells S7 hCw9) (i := 1) rfl rfl)))) ?_
 simp only [pS, pN, pA, pC, pZ]
 refine gw_rel rfl rfl (fun w9 hCw9 hF_ => ?_) (fun v12 => ?_)
 ·obtain ⟨F13, g14, R15⟩ := hF_.get 2 (by kernel_rfl) rfl rfl
  obtain ⟨F18, g19, R20⟩ := hF_.get 5 (by kernel_rfl) rfl rfl
  have hR0 := (R15.mono (both_left F13 F18))
  obtain ⟨xa23, xc24, rfl, _⟩ := hR0.shape
  have hR1 := (R20.mono (both_right g14.sat g19.sat))
  obtain ⟨xa25, xc26, rfl, _⟩ := hR1.shape
  have hR3 := Bs.nil (both F13 F18)
  exact does_val (ex_build (bmap3 rfl rfl rfl) (by kernel_rfl)) ⟨(both F13 F18), (g14.both g19), ⟨_, _, _, _, _, _, rfl, hR0, hR1, hR3⟩⟩ (Below.refl _ _)
 simp only [pS, pN, pA, pC, pZ]
 refine gw_rel rfl rfl (fun w9 hCw9 _ => does_alloc (cs := [(.slice none 0 0), (.slice none 0 0), (.bool false), (.slice none 0 0)]) (zero_83 _) rfl hCw9) (fun v27 => ?_)
 simp only [pS, pN, pA, pC, pZ]
 refine gw_nil ?_
 intro w28 hC30 hF31
 obtain ⟨n32, rfl, hn33, hb34⟩ := hF31.getR 9 rfl rfl
 have hnbn32 : ∀ u ∈ [(.slice none 0 0), (.slice none 0 0), (.bool false), (.slice none 0 0)], ∀ x, u ≠ bv x := by intro u hu x; simp only [List.mem_cons, List.not_mem_nil, or_false] at hu; rcases hu with rfl | rfl | rfl | rfl <;> (unfold bv; simp)
 obtain ⟨F35, g36, R37⟩ := hF31.get 8 rfl rfl
 have g38 := g36.dropF S7.sat hn33
 have R39 := RdV.dropF g36.sat hb34 hnbn32 R37
 have S29 := St.addBlk (cs := [(.slice none 0 0), (.slice none 0 0), (.bool false), (.slice none 0 0)]) S7 g38 hn33 (dropF_at _ _) hb34
 have le41 : Le _ _ := g38.le S7.sat
 have R42 := R39
 generalize (dropF F35 n32) = F40 at *
 obtain ⟨xa43, xc44, xa46, xc47, xa49, xc50, rfl, r45, r48, r51⟩ := R42
 have r45 : Bs _ (.slice xa43 (nameL p.name).length xc44) (nameL p.name) := r45
 have r48 : Bs _ (.slice xa46 (keyL p.key).length xc47) (keyL p.key) := r48
 have r51 : Bs _ (.slice xa49 ([] : By).length xc50) ([] : By) := r51
 clear hF31
 simp only [List.drop_succ_cons, List.drop_zero]
 have S29 : St w F w28 F40 [⟨n32, [(.slice none 0 0), (.slice none 0 0), (.bool false), (.slice none 0 0)], 83⟩, ⟨n5, [(.slice none 0 0), (.slice none 0 0), (.bool false), (.slice none 0 0)], 83⟩, ⟨n2, [(.slice x0 p.name.length y0), (.slice x1 p.key.length y1), (.slice x2 p.value.length y2), (.bool p.gone)], 30⟩] [] := S29
 refine stStore (i := 0) (v := (.agg #[(.slice xa43 (nameL p.name).length xc44), (.slice xa46 (keyL p.key).length xc47), (.bool p.gone), (.slice xa49 ([] : By).length xc50)])) S29 rfl rfl rfl rfl (size_83) (allc4 rfl rfl rfl rfl) (Nat.le_of_ble_eq_true rfl) (fun w52 S53 => ?_)
 simp only [pS, pN, pA, pC, pZ]
 have S53 : St w F w52 F40 [⟨n32, [(.slice xa43 (nameL p.name).length xc44), (.slice xa46 (keyL p.key).length xc47), (.bool p.gone), (.slice xa49 ([] : By).length xc50)], 83⟩, ⟨n5, [(.slice none 0 0), (.slice none 0 0), (.bool false), (.slice none 0 0)], 83⟩, ⟨n2, [(.slice x0 p.name.length y0), (.slice x1 p.key.length y1), (.slice x2 p.value.length y2), (.bool p.gone)], 30⟩] [] := S53
 refine wl_nil (hK8 _ _ ?_)
 refine wp_seq_k (fun K54 hK54 => ?_)
 refine wp_seq_k (fun K55 hK55 => region_wl ?_)
 refine do_ rfl (.pointer (some ⟨n2, 3, none⟩)) (ex_field (q := ⟨n2, 3, none⟩) rfl (fa_30_3 _ _)) ?_
 simp only [pS, pN, pA, pC, pZ]
 refine do_ rfl (.bool p.gone) (ex_load rfl (load1 (nagg_4 _) (St.cell S53 (i := 2) rfl rfl))) ?_
 simp only [pS, pN, pA, pC, pZ]
 refine wl_nil (hK55 _ _ ?_)
 refine wp_cond_split rfl (fun hc56 => ?_) (fun hc56 => ?_)
 ·refine region_wl ?_
  refine do_ rfl (.pointer (some ⟨n2, 2, none⟩)) (ex_field (q := ⟨n2, 2, none⟩) rfl (fa_30_2 _ _)) ?_
  simp only [pS, pN, pA, pC, pZ]
  refine do_ rfl (.slice x2 p.value.length y2) (ex_load rfl (load1 (nagg_25 _) (St.cell S53 (i := 2) rfl rfl))) ?_
  simp only [pS, pN, pA, pC, pZ]
  refine stGives S53 rfl (ex_fn (vs := #[(.slice x2 p.value.length y2)]) (map1 rfl) rfl (ent_28 _ _)) (key_spec _ _ _ p.value (S53).sat (h2.mono le41)) ?_
  intro v62 w57 F59 S58 le60 R61
  obtain ⟨xa63, xc64, rfl, _⟩ := R61.shape
  simp only [pS, pN, pA, pC, pZ]
  refine do_ rfl (.pointer (some ⟨n32, 3, none⟩)) (ex_field (q := ⟨n32, 3, none⟩) rfl (fa_83_3 _ _)) ?_
  simp only [pS, pN, pA, pC, pZ]
  refine stStore (i := 0) (v := (.slice xa63 (keyL p.value).length xc64)) S58 rfl rfl rfl rfl (size_25) (allc1 rfl) (Nat.le_of_ble_eq_true rfl) (fun w65 S66 => ?_)
  simp only [pS, pN, pA, pC, pZ]
  have S66 : St w F w65 F59 [⟨n32, [(.slice xa43 (nameL p.name).length xc44), (.slice xa46 (keyL p.key).length xc47), (.bool p.gone), (.slice xa63 (keyL p.value).length xc64)], 83⟩, ⟨n5, [(.slice none 0 0), (.slice none 0 0), (.bool false), (.slice none 0 0)], 83⟩, ⟨n2, [(.slice x0 p.name.length y0), (.slice x1 p.key.length y1), (.slice x2 p.value.length y2), (.bool p.gone)], 30⟩] [] := S66
  refine wl_nil (hK54 _ _ ?_)
  refine wp_seq_k (fun K67 hK67 => region_wl ?_)
  refine do_ rfl (.agg #[(.slice xa43 (nameL p.name).length xc44), (.slice xa46 (keyL p.key).length xc47), (.bool p.gone), (.slice xa63 (keyL p.value).length xc64)]) (ex_load rfl (loadN (cs := [(.slice xa43 (nameL p.name).length xc44), (.slice xa46 (keyL p.key).length xc47), (.bool p.gone), (.slice xa63 (keyL p.value).length xc64)]) Try.underlying83 rfl (size_83) (St.range S66 (i := 0) rfl 0 [(.slice xa43 (nameL p.name).length xc44), (.slice xa46 (keyL p.key).length xc47), (.bool p.gone), (.slice xa63 (keyL p.value).length xc64)] (sub_range 0 rfl)))) ?_
  simp only [pS, pN, pA, pC, pZ]
  refine stStore (i := 1) (v := (.agg #[(.slice xa43 (nameL p.name).length xc44), (.slice xa46 (keyL p.key).length xc47), (.bool p.gone), (.slice xa63 (keyL p.value).length xc64)])) S66 rfl rfl rfl rfl (size_83) (allc4 rfl rfl rfl rfl) (Nat.le_of_ble_eq_true rfl) (fun w68 S69 => ?_)
  simp only [pS, pN, pA, pC, pZ]
  have S69 : St w F w68 F59 [⟨n32, [(.slice xa43 (nameL p.name).length xc44), (.slice xa46 (keyL p.key).length xc47), (.bool p.gone), (.slice xa63 (keyL p.value).length xc64)], 83⟩, ⟨n5, [(.slice xa43 (nameL p.name).length xc44), (.slice xa46 (keyL p.key).length xc47), (.bool p.gone), (.slice xa63 (keyL p.value).length xc64)], 83⟩, ⟨n2, [(.slice x0 p.name.length y0), (.slice x1 p.key.length y1), (.slice x2 p.value.length y2), (.bool p.gone)], 30⟩] [] := S69
  refine wl_nil (hK67 _ _ ?_)
  refine wp_ret ?_
  (try simp only [Exit.then, Exit.inBlock, ↓reduceIte, Nat.reduceEqDiff])
  refine bodyPost_ret (v := (.agg #[(.slice xa43 (nameL p.name).length xc44), (.slice xa46 (keyL p.key).length xc47), (.bool p.gone), (.slice xa63 (keyL p.value).length xc64)])) ?_ rfl ?_
  ·exact res_c rfl ⟨_, rfl, loadN (cs := [(.slice xa43 (nameL p.name).length xc44), (.slice xa46 (keyL p.key).length xc47), (.bool p.gone), (.slice xa63 (keyL p.value).length xc64)]) Try.underlying83 rfl (size_83) (St.range S69 (i := 1) rfl 0 [(.slice xa43 (nameL p.name).length xc44), (.slice xa46 (keyL p.key).length xc47), (.bool p.gone), (.slice xa63 (keyL p.value).length xc64)] (sub_range 0 rfl))⟩
  ·have hw : readP p = ⟨nameL p.name, keyL p.key, p.gone, (keyL p.value)⟩ := by unfold readP; rw [show p.gone = true from by simpa using hc56]; rfl
   rw [hw]
   exact ⟨_, _, rfl, S69.gr, _, _, _, _, _, _, rfl, (r45.mono le60), (r48.mono le60), R61⟩
 ·refine wp_skip ?_
  refine hK54 _ _ ?_
  refine wp_seq_k (fun K70 hK70 => region_wl ?_)
  refine do_ rfl (.agg #[(.slice xa43 (nameL p.name).length xc44), (.slice xa46 (keyL p.key).length xc47), (.bool p.gone), (.slice xa49 ([] : By).length xc50)]) (ex_load rfl (loadN (cs := [(.slice xa43 (nameL p.name).length xc44), (.slice xa46 (keyL p.key).length xc47), (.bool p.gone), (.slice xa49 ([] : By).length xc50)]) Try.underlying83 rfl (size_83) (St.range S53 (i := 0) rfl 0 [(.slice xa43 (nameL p.name).length xc44), (.slice xa46 (keyL p.key).length xc47), (.bool p.gone), (.slice xa49 ([] : By).length xc50)] (sub_range 0 rfl)))) ?_
  simp only [pS, pN, pA, pC, pZ]
  refine stStore (i := 1) (v := (.agg #[(.slice xa43 (nameL p.name).length xc44), (.slice xa46 (keyL p.key).length xc47), (.bool p.gone), (.slice xa49 ([] : By).length xc50)])) S53 rfl rfl rfl rfl (size_83) (allc4 rfl rfl rfl rfl) (Nat.le_of_ble_eq_true rfl) (fun w71 S72 => ?_)
  simp only [pS, pN, pA, pC, pZ]
  have S72 : St w F w71 F40 [⟨n32, [(.slice xa43 (nameL p.name).length xc44), (.slice xa46 (keyL p.key).length xc47), (.bool p.gone), (.slice xa49 ([] : By).length xc50)], 83⟩, ⟨n5, [(.slice xa43 (nameL p.name).length xc44), (.slice xa46 (keyL p.key).length xc47), (.bool p.gone), (.slice xa49 ([] : By).length xc50)], 83⟩, ⟨n2, [(.slice x0 p.name.length y0), (.slice x1 p.key.length y1), (.slice x2 p.value.length y2), (.bool p.gone)], 30⟩] [] := S72
  refine wl_nil (hK70 _ _ ?_)
  refine wp_ret ?_
  (try simp only [Exit.then, Exit.inBlock, ↓reduceIte, Nat.reduceEqDiff])
  refine bodyPost_ret (v := (.agg #[(.slice xa43 (nameL p.name).length xc44), (.slice xa46 (keyL p.key).length xc47), (.bool p.gone), (.slice xa49 ([] : By).length xc50)])) ?_ rfl ?_
  ·exact res_c rfl ⟨_, rfl, loadN (cs := [(.slice xa43 (nameL p.name).length xc44), (.slice xa46 (keyL p.key).length xc47), (.bool p.gone), (.slice xa49 ([] : By).length xc50)]) Try.underlying83 rfl (size_83) (St.range S72 (i := 1) rfl 0 [(.slice xa43 (nameL p.name).length xc44), (.slice xa46 (keyL p.key).length xc47), (.bool p.gone), (.slice xa49 ([] : By).length xc50)] (sub_range 0 rfl))⟩
  ·have hw : readP p = ⟨nameL p.name, keyL p.key, p.gone, ([] : By)⟩ := by unfold readP; rw [show p.gone = false from by simpa using hc56]; rfl
   rw [hw]
   exact ⟨_, _, rfl, S72.gr, _, _, _, _, _, _, rfl, r45, r48, r51⟩
set_option maxHeartbeats 8000000 in
theorem txnOf_spec (F : Fz) (w : World) (v u : Value) (l m : List Pl) (hs : Sat w F) (hv : Pls F v l) (hu : Pls F u m) :
    Calls Try.prog 41 #[v, u] w (Gives w F fun F' u => ∃ v, u = .tuple #[v, .bool true] ∧ TxV F' v (txO l m)) := by
 obtain ⟨a, c, rfl, hc1, hc2⟩ := Sl.shape hv
 obtain ⟨b, d, rfl, hc3, hc4⟩ := Sl.shape hu
 unfold maxLen at hc2 hc4
 have S := St.start hs
 go_enter Try.func41, Try.ntmps41
 refine wp_seq_k (fun K1 hK1 => region_wl ?_)
 refine stNew S (v := fun n => .pointer (some ⟨n, 0, none⟩)) rfl (ex_alloc (zero_75 _)) (fun n2 w3 S4 => ?_)
 simp only [pS, pN, pA, pC, pZ]
 have S4 : St w F w3 F [⟨n2, [(.int .i64 0), (.slice none 0 0), (.slice none 0 0)], 75⟩] [] := S4
 refine do_ rfl (.bool false) (ex_assign _) ?_
 simp only [pS, pN, pA, pC, pZ]
 refine wl_nil (hK1 _ _ ?_)
 refine wp_seq_k (fun K5 hK5 => region_wl ?_)
 refine stNew S4 (v := fun n => .pointer (some ⟨n, 0, none⟩)) rfl (ex_alloc (zero_75 _)) (fun n6 w7 S8 => ?_)
 simp only [pS, pN, pA, pC, pZ]
 have S8 : St w F w7 F [⟨n6, [(.int .i64 0), (.slice none 0 0), (.slice none 0 0)], 75⟩, ⟨n2, [(.int .i64 0), (.slice none 0 0), (.slice none 0 0)], 75⟩] [] := S8
 refine wl_nil (hK5 _ _ ?_)
 refine wp_seq_k (fun K9 hK9 => ?_)
 have hJ16 : ∀ (a13 : Act) (w12 : World), (∃ (x0 : Option Addr) (x1 : Nat) (x2 : Option Addr) (x3 : Nat) (F10 : Fz) (u11 : Nat → Value), u11 = slots a13 ∧ a13 = ⟨#[(.slice a l.length c), (.slice b m.length d), undef, undef, (.pointer (some ⟨n2, 0, none⟩)), (u11 5), (.pointer (some ⟨n6, 0, none⟩)), (u11 7), (u11 8), (u11 9), undef, undef, undef, undef, (u11 14), (u11 15), (u11 16), (u11 17), (u11 18), (u11 19), (u11 20), (u11 21), (u11 22), (u11 23), (u11 24), (u11 25), (u11 26), (u11 27), (u11 28), (u11 29), (u11 30), (u11 31), (u11 32), (u11 33), (u11 34), (u11 35), (u11 36), (u11 37), undef, undef, undef, undef, undef, undef, undef, undef, undef, undef, undef, undef, undef, undef, undef, undef, undef, undef, undef, undef, undef, undef, undef, undef, undef, undef, undef, undef, undef], []⟩ ∧ St w F w12 F10 [⟨n6, [(.int .i64 (txW (writesN l 8)).start), (.slice x0 (txW (writesN l 8)).reads.length x1), (.slice x2 (txW (writesN l 8)).writes.length x3)], 75⟩, ⟨n2, [(.int .i64 0), (.slice none 0 0), (.slice none 0 0)], 75⟩] [] ∧ Le F F10 ∧ (Rds F10 (.slice x0 (txW (writesN l 8)).reads.length x1) (txW (writesN l 8)).reads) ∧ (Wrs F10 (.slice x2 (txW (writesN l 8)).writes.length x3) (txW (writesN l 8)).writes)) → K9 a13 w12 := by
  rintro a13 w12 ⟨x0, x1, x2, x3, F10, u11, -, rfl, S14, le15, qr, qw⟩
  have hT := txW_ok (writesN l 8) (writesN_ok l 8) (by have := writesN_len l 8; omega)
  refine hK9 _ _ ?_
  refine wp_seq_k (fun K17 hK17 => ?_)
  have hJ24 : ∀ (a21 : Act) (w20 : World), (∃ (z0 : Option Addr) (z1 : Nat) (z2 : Option Addr) (z3 : Nat) (F18 : Fz) (u19 : Nat → Value), u19 = slots a21 ∧ a21 = ⟨#[(.slice a l.length c), (.slice b m.length d), undef, undef, (.pointer (some ⟨n2, 0, none⟩)), (u19 5), (.pointer (some ⟨n6, 0, none⟩)), (u11 7), (u11 8), (u11 9), (u19 10), (u19 11), (u19 12), (u19 13), (u11 14), (u11 15), (u11 16), (u11 17), (u11 18), (u11 19), (u11 20), (u11 21), (u11 22), (u11 23), (u11 24), (u11 25), (u11 26), (u11 27), (u11 28), (u11 29), (u11 30), (u11 31), (u11 32), (u11 33), (u11 34), (u11 35), (u11 36), (u11 37), (u19 38), (u19 39), (u19 40), (u19 41), (u19 42), (u19 43), (u19 44), (u19 45), (u19 46), (u19 47), (u19 48), (u19 49), (u19 50), (u19 51), (u19 52), (u19 53), (u19 54), (u19 55), (u19 56), (u19 57), (u19 58), (u19 59), (u19 60), (u19 61), (u19 62), undef, undef, undef, undef], []⟩ ∧ St w F w20 F18 [⟨n6, [(.int .i64 (txO l m).start), (.slice z0 (txO l m).reads.length z1), (.slice z2 (txO l m).writes.length z3)], 75⟩, ⟨n2, [(.int .i64 0), (.slice none 0 0), (.slice none 0 0)], 75⟩] [] ∧ Le F10 F18 ∧ (Rds F18 (.slice z0 (txO l m).reads.length z1) (txO l m).reads) ∧ (Wrs F18 (.slice z2 (txO l m).writes.length z3) (txO l m).writes)) → K17 a21 w20 := by
   rintro a21 w20 ⟨z0, z1, z2, z3, F18, u19, -, rfl, S22, le23, pr, pw⟩
   refine hK17 _ _ ?_
   refine wp_seq_k (fun K25 hK25 => ?_)
   refine region_late F18 [0, 1, 2] 3 4 [5] [(2, .is (.int .i64 0)), (3, .is (.bool true))] (by kernel_rfl) (by kernel_rfl) rfl rfl rfl rfl ?_
   simp only [opsAt, List.getElem?_cons_succ, List.getElem?_cons_zero, List.map_cons, List.map_nil]
   refine gp_pure rfl rfl (.agg #[(.int .i64 (txO l m).start), (.slice z0 (txO l m).reads.length z1), (.slice z2 (txO l m).writes.length z3)]) (fun w26 hCw26 => pureAt_of (ex_load rfl (loadN (cs := [(.int .i64 (txO l m).start), (.slice z0 (txO l m).reads.length z1), (.slice z2 (txO l m).writes.length z3)]) Try.underlying75 rfl (size_75) (St.range (St.tells S22 hCw26) (i := 0) rfl 0 [(.int .i64 (txO l m).start), (.slice z0 (txO l m).reads.length z1), (.slice z2 (txO l m).writes.length z3)] (sub_range 0 rfl))))) ?_
   simp only [pS, pN, pA, pC, pZ]
   refine gp_pure rfl rfl (.agg #[(.int .i64 (txO l m).start), (.slice z0 (txO l m).reads.length z1), (.slice z2 (txO l m).writes.length z3)]) (fun w26 hCw26 => pureAt_of (ex_load rfl (loadN (cs := [(.int .i64 (txO l m).start), (.slice z0 (txO l m).reads.length z1), (.slice z2 (txO l m).writes.length z3)]) Try.underlying75 rfl (size_75) (St.range (St.tells S22 hCw26) (i := 0) rfl 0 [(.int .i64 (txO l m).start), (.slice z0 (txO l m).reads.length z1), (.slice z2 (txO l m).writes.length z3)] (sub_range 0 rfl))))) ?_
   simp only [pS, pN, pA, pC, pZ]
   refine gp_const rfl rfl (v := (.int .i64 0)) (fun w26 hCw26 _ => does_call (ex_fn (vs := #[(.agg #[(.int .i64 (txO l m).start), (.slice z0 (txO l m).reads.length z1), (.slice z2 (txO l m).writes.length z3)])]) (map1 rfl) rfl (ent_51 _ _)) (call_tells (txnCheckOk_spec _ _ _ (txO l m) ((St.tells S22 hCw26)).sat ⟨_, _, _, _, rfl, pr, pw⟩ (txO_ok l m).1))) ?_
   simp only [pS, pN, pA, pC, pZ]
   refine gp_nil (late_ rfl rfl (v := (.bool true)) (fun w26 hCw26 hF_ => ?_) ?_)
   ·exact fun w1 => pureAt_of (ex_eql (b := true) rfl rfl (by decide))
   intro w30 hC32 hF33
   clear hF33
   have S31 := St.tells S22 hC32
   simp only [pS, pN, pA, pC, pZ]
   refine stLate (i := 1) (v := (.agg #[(.int .i64 (txO l m).start), (.slice z0 (txO l m).reads.length z1), (.slice z2 (txO l m).writes.length z3)])) S31 rfl rfl rfl (size_75) (allc3 rfl rfl rfl) (Nat.le_of_ble_eq_true rfl) (fun w34 S35 => ?_)
   have S35 : St w F w34 F18 [⟨n6, [(.int .i64 (txO l m).start), (.slice z0 (txO l m).reads.length z1), (.slice z2 (txO l m).writes.length z3)], 75⟩, ⟨n2, [(.int .i64 (txO l m).start), (.slice z0 (txO l m).reads.length z1), (.slice z2 (txO l m).writes.length z3)], 75⟩] [] := S35
   refine do_ rfl (.bool true) (ex_assign _) ?_
   simp only [pS, pN, pA, pC, pZ]
   refine wl_nil (hK25 _ _ ?_)
   refine wp_ret ?_
   (try simp only [Exit.then, Exit.inBlock, ↓reduceIte, Nat.reduceEqDiff])
   refine bodyPost_ret (v := (.tuple #[(.agg #[(.int .i64 (txO l m).start), (.slice z0 (txO l m).reads.length z1), (.slice z2 (txO l m).writes.length z3)]), (.bool true)])) ?_ rfl ?_
   ·exact res_ct rfl ⟨_, rfl, loadN (cs := [(.int .i64 (txO l m).start), (.slice z0 (txO l m).reads.length z1), (.slice z2 (txO l m).writes.length z3)]) Try.underlying75 rfl (size_75) (St.range S35 (i := 1) rfl 0 [(.int .i64 (txO l m).start), (.slice z0 (txO l m).reads.length z1), (.slice z2 (txO l m).writes.length z3)] (sub_range 0 rfl))⟩ rfl
   ·exact ⟨_, _, rfl, S35.gr, _, rfl, ⟨_, _, _, _, rfl, pr, pw⟩⟩
  refine wp_seq_k (fun K36 hK36 => region_wl ?_)
  refine do_ rfl (.int .i64 0) (ex_assign _) ?_
  simp only [pS, pN, pA, pC, pZ]
  refine wl_nil (hK36 _ _ ?_)
  refine wp_block ?_
  refine wp_loop_g (fun mm aa w39 => ∃ (j : Nat) (z0 : Option Addr) (z1 : Nat) (z2 : Option Addr) (z3 : Nat) (F37 : Fz) (u38 : Nat → Value), mm = m.length - j ∧ u38 = slots aa ∧ aa = ⟨#[(.slice a l.length c), (.slice b m.length d), undef, undef, (.pointer (some ⟨n2, 0, none⟩)), (u38 5), (.pointer (some ⟨n6, 0, none⟩)), (u11 7), (u11 8), (u11 9), (.int .i64 ((j : Nat) : Int)), (u38 11), (u38 12), (u38 13), (u11 14), (u11 15), (u11 16), (u11 17), (u11 18), (u11 19), (u11 20), (u11 21), (u11 22), (u11 23), (u11 24), (u11 25), (u11 26), (u11 27), (u11 28), (u11 29), (u11 30), (u11 31), (u11 32), (u11 33), (u11 34), (u11 35), (u11 36), (u11 37), (u38 38), (u38 39), (u38 40), (u38 41), (u38 42), (u38 43), (u38 44), (u38 45), (u38 46), (u38 47), (u38 48), (u38 49), (u38 50), (u38 51), (u38 52), (u38 53), (u38 54), (u38 55), (u38 56), (u38 57), (u38 58), (u38 59), (u38 60), (u38 61), (u38 62), undef, undef, undef, undef], []⟩ ∧ St w F w39 F37 [⟨n6, [(.int .i64 (txR (txW (writesN l 8)) (readsN m j)).start), (.slice z0 (txR (txW (writesN l 8)) (readsN m j)).reads.length z1), (.slice z2 (txR (txW (writesN l 8)) (readsN m j)).writes.length z3)], 75⟩, ⟨n2, [(.int .i64 0), (.slice none 0 0), (.slice none 0 0)], 75⟩] [] ∧ Le F10 F37 ∧ (j ≤ m.length ∧ j ≤ 8) ∧ (Rds F37 (.slice z0 (txR (txW (writesN l 8)) (readsN m j)).reads.length z1) (txR (txW (writesN l 8)) (readsN m j)).reads) ∧ (Wrs F37 (.slice z2 (txR (txW (writesN l 8)) (readsN m j)).writes.length z3) (txR (txW (writesN l 8)) (readsN m j)).writes)) _ ⟨0, x0, x1, x2, x3, F10, _, rfl, rfl, rfl, S14, Le.refl _, ⟨by omega, by omega⟩, qr, qw⟩ ?_
  rintro m40 a41 w42 ⟨j, z0, z1, z2, z3, F37, u38, rfl, -, rfl, S43, le44, hj, pr, pw⟩ K45 hK45
  refine wp_seq_k (fun K46 hK46 => ?_)
  refine wp_seq_k (fun K47 hK47 => region_wl ?_)
  refine do_ rfl (.int .i64 ((j : Nat) : Int)) (ex_move _) ?_
  simp only [pS, pN, pA, pC, pZ]
  refine do_ rfl (.slice b m.length d) (ex_move _) ?_
  simp only [pS, pN, pA, pC, pZ]
  refine do_ rfl (.int .i64 ((m.length : Nat) : Int)) (ex_len Try.underlying22 rfl) ?_
  simp only [pS, pN, pA, pC, pZ]
  by_cases hc41 : j < m.length
  ·refine do_ rfl (.bool true) (ex_lss (m := ((j : Nat) : Int)) (n := ((m.length : Nat) : Int)) (b := true) rfl rfl (decide_eq_true (by omega))) ?_
   simp only [pS, pN, pA, pC, pZ]
   refine do_ rfl (.bool true) (ex_move _) ?_
   simp only [pS, pN, pA, pC, pZ]
   refine do_ rfl (.int .i64 ((j : Nat) : Int)) (ex_move _) ?_
   simp only [pS, pN, pA, pC, pZ]
   by_cases hc44 : j < 8
   ·refine do_ rfl (.bool true) (ex_lss (m := ((j : Nat) : Int)) (n := (8 : Int)) (b := true) rfl rfl (decide_eq_true (by omega))) ?_
    simp only [pS, pN, pA, pC, pZ]
    refine do_ rfl (.bool true) (ex_pick (b := true) rfl) ?_
    simp only [pS, pN, pA, pC, pZ]
    refine wl_nil (hK47 _ _ ?_)
    refine wp_cond_true rfl ?_
    refine wp_skip ?_
    refine hK46 _ _ ?_
    refine wp_seq_k (fun K48 hK48 => ?_)
    refine wp_block ?_
    refine wp_seq_k (fun K49 hK49 => ?_)
    obtain ⟨p, hp⟩ : ∃ p, m[j]? = some p := ⟨m[j]'(by omega), List.getElem?_eq_getElem (by omega)⟩
    have hTj := txR_ok hT.1 hT.2.2.1 (readsN m j) (readsN_ok m j) (by have := readsN_len m j; omega)
    obtain ⟨b50, o51, ha52, xa54, xc55, xa58, xc59, xa62, xc63, c53, c57, c61, c65, r56, r60, r64⟩ := Pls.get (hu.mono (le15.trans le44)) hp
    refine region_wl ?_
    refine do_ rfl (.slice b m.length d) (ex_move _) ?_
    simp only [pS, pN, pA, pC, pZ]
    refine do_ rfl (.int .i64 ((j : Nat) : Int)) (ex_move _) ?_
    simp only [pS, pN, pA, pC, pZ]
    refine do_ rfl (.pointer (some ⟨b50, o51 + j * 4, none⟩)) (ex_at (i := j) (sz := 4) Try.underlying22 (sizeof_30 _) rfl ha52 rfl (by omega) rfl) ?_
    simp only [pS, pN, pA, pC, pZ]
    refine do_ rfl (.agg #[(.slice xa54 p.name.length xc55), (.slice xa58 p.key.length xc59), (.slice xa62 p.value.length xc63), (.bool p.gone)]) (ex_load rfl (loadN (cs := [(.slice xa54 p.name.length xc55), (.slice xa58 p.key.length xc59), (.slice xa62 p.value.length xc63), (.bool p.gone)]) Try.underlying30 rfl (size_30) (range4 (St.fz S43 c53) (St.fz S43 c57) (St.fz S43 c61) (St.fz S43 c65)))) ?_
    simp only [pS, pN, pA, pC, pZ]
    refine stGives S43 rfl (ex_fn (vs := #[(.agg #[(.slice xa54 p.name.length xc55), (.slice xa58 p.key.length xc59), (.slice xa62 p.value.length xc63), (.bool p.gone)])]) (map1 rfl) rfl (ent_45 _ _)) (keepRead_spec _ _ _ p (S43).sat ⟨_, _, _, _, _, _, rfl, r56, r60, r64⟩) ?_
    intro v71 w66 F68 S67 le69 R70
    obtain ⟨xa72, xc73, xa74, xc75, xa76, xc77, rfl, r78, r79, r80⟩ := R70
    simp only [pS, pN, pA, pC, pZ]
    refine stNew S67 (v := fun n => .pointer (some ⟨n, 0, none⟩)) rfl (ex_alloc (zero_83 _)) (fun n81 w82 S83 => ?_)
    simp only [pS, pN, pA, pC, pZ]
    have S83 : St w F w82 F68 [⟨n81, [(.slice none 0 0), (.slice none 0 0), (.bool false), (.slice none 0 0)], 83⟩, ⟨n6, [(.int .i64 (txR (txW (writesN l 8)) (readsN m j)).start), (.slice z0 (txR (txW (writesN l 8)) (readsN m j)).reads.length z1), (.slice z2 (txR (txW (writesN l 8)) (readsN m j)).writes.length z3)], 75⟩, ⟨n2, [(.int .i64 0), (.slice none 0 0), (.slice none 0 0)], 75⟩] [] := S83
    refine stStore (i := 0) (v := (.agg #[(.slice xa72 (readP p).name.length xc73), (.slice xa74 (readP p).key.length xc75), (.bool (readP p).wide), (.slice xa76 (readP p).last.length xc77)])) S83 rfl rfl rfl rfl (size_83) (allc4 rfl rfl rfl rfl) (Nat.le_of_ble_eq_true rfl) (fun w84 S85 => ?_)
    simp only [pS, pN, pA, pC, pZ]
    have S85 : St w F w84 F68 [⟨n81, [(.slice xa72 (readP p).name.length xc73), (.slice xa74 (readP p).key.length xc75), (.bool (readP p).wide), (.slice xa76 (readP p).last.length xc77)], 83⟩, ⟨n6, [(.int .i64 (txR (txW (writesN l 8)) (readsN m j)).start), (.slice z0 (txR (txW (writesN l 8)) (readsN m j)).reads.length z1), (.slice z2 (txR (txW (writesN l 8)) (readsN m j)).writes.length z3)], 75⟩, ⟨n2, [(.int .i64 0), (.slice none 0 0), (.slice none 0 0)], 75⟩] [] := S85
    refine wl_nil (hK49 _ _ ?_)
    refine wp_seq_k (fun K86 hK86 => region_wl ?_)
    refine do_ rfl (.agg #[(.int .i64 (txR (txW (writesN l 8)) (readsN m j)).start), (.slice z0 (txR (txW (writesN l 8)) (readsN m j)).reads.length z1), (.slice z2 (txR (txW (writesN l 8)) (readsN m j)).writes.length z3)]) (ex_load rfl (loadN (cs := [(.int .i64 (txR (txW (writesN l 8)) (readsN m j)).start), (.slice z0 (txR (txW (writesN l 8)) (readsN m j)).reads.length z1), (.slice z2 (txR (txW (writesN l 8)) (readsN m j)).writes.length z3)]) Try.underlying75 rfl (size_75) (St.range S85 (i := 1) rfl 0 [(.int .i64 (txR (txW (writesN l 8)) (readsN m j)).start), (.slice z0 (txR (txW (writesN l 8)) (readsN m j)).reads.length z1), (.slice z2 (txR (txW (writesN l 8)) (readsN m j)).writes.length z3)] (sub_range 0 rfl)))) ?_
    simp only [pS, pN, pA, pC, pZ]
    refine do_ rfl (.agg #[(.slice xa72 (readP p).name.length xc73), (.slice xa74 (readP p).key.length xc75), (.bool (readP p).wide), (.slice xa76 (readP p).last.length xc77)]) (ex_load rfl (loadN (cs := [(.slice xa72 (readP p).name.length xc73), (.slice xa74 (readP p).key.length xc75), (.bool (readP p).wide), (.slice xa76 (readP p).last.length xc77)]) Try.underlying83 rfl (size_83) (St.range S85 (i := 0) rfl 0 [(.slice xa72 (readP p).name.length xc73), (.slice xa74 (readP p).key.length xc75), (.bool (readP p).wide), (.slice xa76 (readP p).last.length xc77)] (sub_range 0 rfl)))) ?_
    simp only [pS, pN, pA, pC, pZ]
    refine stGives S85 rfl (ex_fn (vs := #[(.agg #[(.int .i64 (txR (txW (writesN l 8)) (readsN m j)).start), (.slice z0 (txR (txW (writesN l 8)) (readsN m j)).reads.length z1), (.slice z2 (txR (txW (writesN l 8)) (readsN m j)).writes.length z3)]), (.agg #[(.slice xa72 (readP p).name.length xc73), (.slice xa74 (readP p).key.length xc75), (.bool (readP p).wide), (.slice xa76 (readP p).last.length xc77)])]) (map2 rfl rfl) rfl (ent_46 _ _)) (txnNoteIs_spec _ _ _ _ (txR (txW (writesN l 8)) (readsN m j)) (readP p) (txR (txW (writesN l 8)) (readsN m (j + 1))) (S85).sat ⟨_, _, _, _, rfl, (pr.mono le69), (pw.mono le69)⟩ ⟨_, _, _, _, _, _, rfl, r78, r79, r80⟩ hTj.1 (readP_ok p) (txR_step hT.1 hT.2.2.1 hp (by omega))) ?_
    intro v92 w87 F89 S88 le90 R91
    obtain ⟨_, rfl, R93⟩ := R91
    obtain ⟨xa94, xc95, xa96, xc97, rfl, r98, r99⟩ := R93
    simp only [pS, pN, pA, pC, pZ]
    refine do_ rfl (.tuple #[(.agg #[(.int .i64 (txR (txW (writesN l 8)) (readsN m (j + 1))).start), (.slice xa94 (txR (txW (writesN l 8)) (readsN m (j + 1))).reads.length xc95), (.slice xa96 (txR (txW (writesN l 8)) (readsN m (j + 1))).writes.length xc97)]), (.int .i64 0)]) (ex_move _) ?_
    simp only [pS, pN, pA, pC, pZ]
    refine do_ rfl (.agg #[(.int .i64 (txR (txW (writesN l 8)) (readsN m (j + 1))).start), (.slice xa94 (txR (txW (writesN l 8)) (readsN m (j + 1))).reads.length xc95), (.slice xa96 (txR (txW (writesN l 8)) (readsN m (j + 1))).writes.length xc97)]) (ex_extract rfl rfl) ?_
    simp only [pS, pN, pA, pC, pZ]
    refine do_ rfl (.int .i64 0) (ex_extract rfl rfl) ?_
    simp only [pS, pN, pA, pC, pZ]
    refine stNew S88 (v := fun n => .pointer (some ⟨n, 0, none⟩)) rfl (ex_alloc (zero_75 _)) (fun n100 w101 S102 => ?_)
    simp only [pS, pN, pA, pC, pZ]
    have S102 : St w F w101 F89 [⟨n100, [(.int .i64 0), (.slice none 0 0), (.slice none 0 0)], 75⟩, ⟨n81, [(.slice xa72 (readP p).name.length xc73), (.slice xa74 (readP p).key.length xc75), (.bool (readP p).wide), (.slice xa76 (readP p).last.length xc77)], 83⟩, ⟨n6, [(.int .i64 (txR (txW (writesN l 8)) (readsN m j)).start), (.slice z0 (txR (txW (writesN l 8)) (readsN m j)).reads.length z1), (.slice z2 (txR (txW (writesN l 8)) (readsN m j)).writes.length z3)], 75⟩, ⟨n2, [(.int .i64 0), (.slice none 0 0), (.slice none 0 0)], 75⟩] [] := S102
    refine stStore (i := 0) (v := (.agg #[(.int .i64 (txR (txW (writesN l 8)) (readsN m (j + 1))).start), (.slice xa94 (txR (txW (writesN l 8)) (readsN m (j + 1))).reads.length xc95), (.slice xa96 (txR (txW (writesN l 8)) (readsN m (j + 1))).writes.length xc97)])) S102 rfl rfl rfl rfl (size_75) (allc3 rfl rfl rfl) (Nat.le_of_ble_eq_true rfl) (fun w103 S104 => ?_)
    simp only [pS, pN, pA, pC, pZ]
    have S104 : St w F w103 F89 [⟨n100, [(.int .i64 (txR (txW (writesN l 8)) (readsN m (j + 1))).start), (.slice xa94 (txR (txW (writesN l 8)) (readsN m (j + 1))).reads.length xc95), (.slice xa96 (txR (txW (writesN l 8)) (readsN m (j + 1))).writes.length xc97)], 75⟩, ⟨n81, [(.slice xa72 (readP p).name.length xc73), (.slice xa74 (readP p).key.length xc75), (.bool (readP p).wide), (.slice xa76 (readP p).last.length xc77)], 83⟩, ⟨n6, [(.int .i64 (txR (txW (writesN l 8)) (readsN m j)).start), (.slice z0 (txR (txW (writesN l 8)) (readsN m j)).reads.length z1), (.slice z2 (txR (txW (writesN l 8)) (readsN m j)).writes.length z3)], 75⟩, ⟨n2, [(.int .i64 0), (.slice none 0 0), (.slice none 0 0)], 75⟩] [] := S104
    refine do_ rfl (.int .i64 0) (ex_assign _) ?_
    simp only [pS, pN, pA, pC, pZ]
    refine wl_nil (hK86 _ _ ?_)
    refine wp_seq_k (fun K105 hK105 => ?_)
    refine wp_seq_k (fun K106 hK106 => region_wl ?_)
    refine do_ rfl (.int .i64 0) (ex_move _) ?_
    simp only [pS, pN, pA, pC, pZ]
    refine do_ rfl (.bool false) (ex_neq (b := false) rfl rfl (by decide)) ?_
    simp only [pS, pN, pA, pC, pZ]
    refine wl_nil (hK106 _ _ ?_)
    refine wp_cond_false rfl ?_
    refine wp_skip ?_
    refine hK105 _ _ ?_
    refine region_wl ?_
    refine do_ rfl (.agg #[(.int .i64 (txR (txW (writesN l 8)) (readsN m (j + 1))).start), (.slice xa94 (txR (txW (writesN l 8)) (readsN m (j + 1))).reads.length xc95), (.slice xa96 (txR (txW (writesN l 8)) (readsN m (j + 1))).writes.length xc97)]) (ex_load rfl (loadN (cs := [(.int .i64 (txR (txW (writesN l 8)) (readsN m (j + 1))).start), (.slice xa94 (txR (txW (writesN l 8)) (readsN m (j + 1))).reads.length xc95), (.slice xa96 (txR (txW (writesN l 8)) (readsN m (j + 1))).writes.length xc97)]) Try.underlying75 rfl (size_75) (St.range S104 (i := 0) rfl 0 [(.int .i64 (txR (txW (writesN l 8)) (readsN m (j + 1))).start), (.slice xa94 (txR (txW (writesN l 8)) (readsN m (j + 1))).reads.length xc95), (.slice xa96 (txR (txW (writesN l 8)) (readsN m (j + 1))).writes.length xc97)] (sub_range 0 rfl)))) ?_
    simp only [pS, pN, pA, pC, pZ]
    refine stStore (i := 2) (v := (.agg #[(.int .i64 (txR (txW (writesN l 8)) (readsN m (j + 1))).start), (.slice xa94 (txR (txW (writesN l 8)) (readsN m (j + 1))).reads.length xc95), (.slice xa96 (txR (txW (writesN l 8)) (readsN m (j + 1))).writes.length xc97)])) S104 rfl rfl rfl rfl (size_75) (allc3 rfl rfl rfl) (Nat.le_of_ble_eq_true rfl) (fun w107 S108 => ?_)
    simp only [pS, pN, pA, pC, pZ]
    have S108 : St w F w107 F89 [⟨n100, [(.int .i64 (txR (txW (writesN l 8)) (readsN m (j + 1))).start), (.slice xa94 (txR (txW (writesN l 8)) (readsN m (j + 1))).reads.length xc95), (.slice xa96 (txR (txW (writesN l 8)) (readsN m (j + 1))).writes.length xc97)], 75⟩, ⟨n81, [(.slice xa72 (readP p).name.length xc73), (.slice xa74 (readP p).key.length xc75), (.bool (readP p).wide), (.slice xa76 (readP p).last.length xc77)], 83⟩, ⟨n6, [(.int .i64 (txR (txW (writesN l 8)) (readsN m (j + 1))).start), (.slice xa94 (txR (txW (writesN l 8)) (readsN m (j + 1))).reads.length xc95), (.slice xa96 (txR (txW (writesN l 8)) (readsN m (j + 1))).writes.length xc97)], 75⟩, ⟨n2, [(.int .i64 0), (.slice none 0 0), (.slice none 0 0)], 75⟩] [] := S108
    refine wl_nil (hK48 _ _ ?_)
    refine region_wl ?_
    refine do_ rfl (.int .i64 ((j : Nat) : Int)) (ex_move _) ?_
    simp only [pS, pN, pA, pC, pZ]
    refine do_ rfl (.int .i64 (((j + 1) : Nat) : Int)) (ex_add (m := ((j : Nat) : Int)) (n := (1 : Int)) (r := (((j + 1) : Nat) : Int)) rfl rfl (by omega) (by omega) (by omega)) ?_
    simp only [pS, pN, pA, pC, pZ]
    refine do_ rfl (.int .i64 (((j + 1) : Nat) : Int)) (ex_assign _) ?_
    simp only [pS, pN, pA, pC, pZ]
    refine wl_nil ?_
    have S108 := St.drop S108 (L' := [⟨n6, [(.int .i64 (txR (txW (writesN l 8)) (readsN m (j + 1))).start), (.slice xa94 (txR (txW (writesN l 8)) (readsN m (j + 1))).reads.length xc95), (.slice xa96 (txR (txW (writesN l 8)) (readsN m (j + 1))).writes.length xc97)], 75⟩, ⟨n2, [(.int .i64 0), (.slice none 0 0), (.slice none 0 0)], 75⟩]) (.cons _ (.cons _ (List.Sublist.refl _)))
    exact hK45 _ _ _ (by omega) ⟨(j + 1), xa94, xc95, xa96, xc97, F89, _, rfl, rfl, rfl, S108, ((le44.trans le69).trans le90), ⟨by omega, by omega⟩, r98, r99⟩
   ·refine do_ rfl (.bool false) (ex_lss (m := ((j : Nat) : Int)) (n := (8 : Int)) (b := false) rfl rfl (decide_eq_false (by omega))) ?_
    simp only [pS, pN, pA, pC, pZ]
    refine do_ rfl (.bool false) (ex_pick (b := true) rfl) ?_
    simp only [pS, pN, pA, pC, pZ]
    refine wl_nil (hK47 _ _ ?_)
    refine wp_cond_false rfl ?_
    refine wp_exit ?_
    have hend : (txR (txW (writesN l 8)) (readsN m j)) = (txO l m) := by unfold txO; congr 1; first | exact readsN_end (by omega) hj.2 | (have : j = 8 := by omega); rw [this]
    rw [hend] at pr pw S43
    exact hJ24 _ _ ⟨z0, z1, z2, z3, F37, _, rfl, rfl, S43, le44, pr, pw⟩
  ·refine do_ rfl (.bool false) (ex_lss (m := ((j : Nat) : Int)) (n := ((m.length : Nat) : Int)) (b := false) rfl rfl (decide_eq_false (by omega))) ?_
   simp only [pS, pN, pA, pC, pZ]
   refine do_ rfl (.bool false) (ex_move _) ?_
   simp only [pS, pN, pA, pC, pZ]
   refine doN (wanted_no rfl rfl rfl (c := false) rfl (by decide)) ?_
   simp only [pS, pN, pA, pC, pZ]
   refine doN (wanted_no rfl rfl rfl (c := false) rfl (by decide)) ?_
   simp only [pS, pN, pA, pC, pZ]
   refine do_ rfl (.bool false) (ex_pick (b := false) rfl) ?_
   simp only [pS, pN, pA, pC, pZ]
   refine wl_nil (hK47 _ _ ?_)
   refine wp_cond_false rfl ?_
   refine wp_exit ?_
   have hend : (txR (txW (writesN l 8)) (readsN m j)) = (txO l m) := by unfold txO; congr 1; first | exact readsN_end (by omega) hj.2 | (have : j = 8 := by omega); rw [this]
   rw [hend] at pr pw S43
   exact hJ24 _ _ ⟨z0, z1, z2, z3, F37, _, rfl, rfl, S43, le44, pr, pw⟩
 refine wp_seq_k (fun K109 hK109 => region_wl ?_)
 refine do_ rfl (.int .i64 0) (ex_assign _) ?_
 simp only [pS, pN, pA, pC, pZ]
 refine wl_nil (hK109 _ _ ?_)
 refine wp_block ?_
 refine wp_loop_g (fun mm aa w112 => ∃ (k : Nat) (x0 : Option Addr) (x1 : Nat) (x2 : Option Addr) (x3 : Nat) (F110 : Fz) (u111 : Nat → Value), mm = l.length - k ∧ u111 = slots aa ∧ aa = ⟨#[(.slice a l.length c), (.slice b m.length d), undef, undef, (.pointer (some ⟨n2, 0, none⟩)), (u111 5), (.pointer (some ⟨n6, 0, none⟩)), (.int .i64 ((k : Nat) : Int)), (u111 8), (u111 9), undef, undef, undef, undef, (u111 14), (u111 15), (u111 16), (u111 17), (u111 18), (u111 19), (u111 20), (u111 21), (u111 22), (u111 23), (u111 24), (u111 25), (u111 26), (u111 27), (u111 28), (u111 29), (u111 30), (u111 31), (u111 32), (u111 33), (u111 34), (u111 35), (u111 36), (u111 37), undef, undef, undef, undef, undef, undef, undef, undef, undef, undef, undef, undef, undef, undef, undef, undef, undef, undef, undef, undef, undef, undef, undef, undef, undef, undef, undef, undef, undef], []⟩ ∧ St w F w112 F110 [⟨n6, [(.int .i64 (txW (writesN l k)).start), (.slice x0 (txW (writesN l k)).reads.length x1), (.slice x2 (txW (writesN l k)).writes.length x3)], 75⟩, ⟨n2, [(.int .i64 0), (.slice none 0 0), (.slice none 0 0)], 75⟩] [] ∧ Le F F110 ∧ (k ≤ l.length ∧ k ≤ 8) ∧ (Rds F110 (.slice x0 (txW (writesN l k)).reads.length x1) (txW (writesN l k)).reads) ∧ (Wrs F110 (.slice x2 (txW (writesN l k)).writes.length x3) (txW (writesN l k)).writes)) _ ⟨0, none, 0, none, 0, F, _, rfl, rfl, rfl, S8, Le.refl _, ⟨by omega, by omega⟩, (Sl.nil _ _ _), (Sl.nil _ _ _)⟩ ?_
 rintro m113 a114 w115 ⟨k, x0, x1, x2, x3, F110, u111, rfl, -, rfl, S116, le117, hk, qr, qw⟩ K118 hK118
 refine wp_seq_k (fun K119 hK119 => ?_)
 refine wp_seq_k (fun K120 hK120 => region_wl ?_)
 refine do_ rfl (.int .i64 ((k : Nat) : Int)) (ex_move _) ?_
 simp only [pS, pN, pA, pC, pZ]
 refine do_ rfl (.slice a l.length c) (ex_move _) ?_
 simp only [pS, pN, pA, pC, pZ]
 refine do_ rfl (.int .i64 ((l.length : Nat) : Int)) (ex_len Try.underlying22 rfl) ?_
 simp only [pS, pN, pA, pC, pZ]
 by_cases hc17 : k < l.length
 ·refine do_ rfl (.bool true) (ex_lss (m := ((k : Nat) : Int)) (n := ((l.length : Nat) : Int)) (b := true) rfl rfl (decide_eq_true (by omega))) ?_
  simp only [pS, pN, pA, pC, pZ]
  refine do_ rfl (.bool true) (ex_move _) ?_
  simp only [pS, pN, pA, pC, pZ]
  refine do_ rfl (.int .i64 ((k : Nat) : Int)) (ex_move _) ?_
  simp only [pS, pN, pA, pC, pZ]
  by_cases hc20 : k < 8
  ·refine do_ rfl (.bool true) (ex_lss (m := ((k : Nat) : Int)) (n := (8 : Int)) (b := true) rfl rfl (decide_eq_true (by omega))) ?_
   simp only [pS, pN, pA, pC, pZ]
   refine do_ rfl (.bool true) (ex_pick (b := true) rfl) ?_
   simp only [pS, pN, pA, pC, pZ]
   refine wl_nil (hK120 _ _ ?_)
   refine wp_cond_true rfl ?_
   refine wp_skip ?_
   refine hK119 _ _ ?_
   refine wp_seq_k (fun K121 hK121 => ?_)
   refine wp_block ?_
   refine wp_seq_k (fun K122 hK122 => ?_)
   obtain ⟨p, hp⟩ : ∃ p, l[k]? = some p := ⟨l[k]'(by omega), List.getElem?_eq_getElem (by omega)⟩
   have hTk := txW_ok (writesN l k) (writesN_ok l k) (by have := writesN_len l k; omega)
   obtain ⟨b123, o124, ha125, xa127, xc128, xa131, xc132, xa135, xc136, c126, c130, c134, c138, r129, r133, r137⟩ := Pls.get (hv.mono le117) hp
   refine region_late F110 [0, 1, 2, 3, 4, 5, 6, 7, 8, 10] 9 11 [12] [(5, .made (fun F' u => WrV F' u (writeP p))), (6, .made (fun F' u => TxE F' u (txW (writesN l (k + 1))) 0)), (8, .made (fun F' u => TxV F' u (txW (writesN l (k + 1))))), (10, .rel (NewAt w115 [(.int .i64 0), (.slice none 0 0), (.slice none 0 0)] 75) (NewAt.stable _ _ _)), (9, .is (.int .i64 0))] (by kernel_rfl) (by kernel_rfl) rfl rfl rfl rfl ?_
   simp only [opsAt, List.getElem?_cons_succ, List.getElem?_cons_zero, List.map_cons, List.map_nil]
   refine gp_pure rfl rfl (.agg #[(.int .i64 (txW (writesN l k)).start), (.slice x0 (txW (writesN l k)).reads.length x1), (.slice x2 (txW (writesN l k)).writes.length x3)]) (fun w139 hCw139 => pureAt_of (ex_load rfl (loadN (cs := [(.int .i64 (txW (writesN l k)).start), (.slice x0 (txW (writesN l k)).reads.length x1), (.slice x2 (txW (writesN l k)).writes.length x3)]) Try.underlying75 rfl (size_75) (St.range (St.tells S116 hCw139) (i := 0) rfl 0 [(.int .i64 (txW (writesN l k)).start), (.slice x0 (txW (writesN l k)).reads.length x1), (.slice x2 (txW (writesN l k)).writes.length x3)] (sub_range 0 rfl))))) ?_
   simp only [pS, pN, pA, pC, pZ]
   refine gp_pure rfl rfl (.slice a l.length c) (fun w139 hCw139 => pureAt_of (ex_move _)) ?_
   simp only [pS, pN, pA, pC, pZ]
   refine gp_pure rfl rfl (.int .i64 ((k : Nat) : Int)) (fun w139 hCw139 => pureAt_of (ex_move _)) ?_
   simp only [pS, pN, pA, pC, pZ]
   refine gp_pure rfl rfl (.pointer (some ⟨b123, o124 + k * 4, none⟩)) (fun w139 hCw139 => pureAt_of (ex_at (i := k) (sz := 4) Try.underlying22 (sizeof_30 _) rfl ha125 rfl (by omega) rfl)) ?_
   simp only [pS, pN, pA, pC, pZ]
   refine gp_pure rfl rfl (.agg #[(.slice xa127 p.name.length xc128), (.slice xa131 p.key.length xc132), (.slice xa135 p.value.length xc136), (.bool p.gone)]) (fun w139 hCw139 => pureAt_of (ex_load rfl (loadN (cs := [(.slice xa127 p.name.length xc128), (.slice xa131 p.key.length xc132), (.slice xa135 p.value.length xc136), (.bool p.gone)]) Try.underlying30 rfl (size_30) (range4 (St.fz (St.tells S116 hCw139) c126) (St.fz (St.tells S116 hCw139) c130) (St.fz (St.tells S116 hCw139) c134) (St.fz (St.tells S116 hCw139) c138))))) ?_
   simp only [pS, pN, pA, pC, pZ]
   refine gp_rel rfl rfl (fun w139 hCw139 hF => does_call (ex_fn (vs := #[(.agg #[(.slice xa127 p.name.length xc128), (.slice xa131 p.key.length xc132), (.slice xa135 p.value.length xc136), (.bool p.gone)])]) (map1 rfl) rfl (ent_19 _ _)) (call_made S116.sat hCw139 (keepWrite_spec _ _ _ p ((St.tells S116 hCw139)).sat ⟨_, _, _, _, _, _, rfl, r129, r133, r137⟩))) (fun v140 => ?_)
   simp only [pS, pN, pA, pC, pZ]
   refine gp_rel rfl rfl (fun w139 hCw139 hF_ => ?_) (fun v153 => ?_)
   ·obtain ⟨F141, g142, R143⟩ := hF_.get 5 (by kernel_rfl) rfl rfl
    obtain ⟨xa144, xc145, xa146, xc147, xa148, xc149, rfl, r150, r151, r152⟩ := R143
    exact does_call (ex_fn (vs := #[(.agg #[(.int .i64 (txW (writesN l k)).start), (.slice x0 (txW (writesN l k)).reads.length x1), (.slice x2 (txW (writesN l k)).writes.length x3)]), (.agg #[(.slice xa144 (writeP p).name.length xc145), (.slice xa146 (writeP p).key.length xc147), (.bool (writeP p).gone), (.slice xa148 (writeP p).value.length xc149)])]) (map2 rfl rfl) rfl (ent_42 _ _)) (call_made2 g142 (txnWriteIs_spec _ _ _ _ (txW (writesN l k)) (writeP p) (txW (writesN l (k + 1))) (g142).sat ⟨_, _, _, _, rfl, (qr.mono (g142.le S116.sat)), (qw.mono (g142.le S116.sat))⟩ ⟨_, _, _, _, _, _, rfl, r150, r151, r152⟩ hTk.1 (writeP_ok p) (txW_step hp (by omega))))
   simp only [pS, pN, pA, pC, pZ]
   refine gp_pure rfl rfl v153 (fun w139 hCw139 => pureAt_of (ex_move _)) ?_
   simp only [pS, pN, pA, pC, pZ]
   refine gp_rel rfl rfl (fun w139 hCw139 hF_ => ?_) (fun v158 => ?_)
   ·obtain ⟨F154, g155, _, rfl, hx157⟩ := hF_.get 6 (by kernel_rfl) rfl rfl
    exact does_val (ex_extract rfl rfl) ⟨F154, g155, hx157⟩ (Below.refl _ _)
   simp only [pS, pN, pA, pC, pZ]
   refine gp_rel rfl rfl (fun w139 hCw139 _ => does_alloc (cs := [(.int .i64 0), (.slice none 0 0), (.slice none 0 0)]) (zero_75 _) rfl hCw139) (fun v159 => ?_)
   simp only [pS, pN, pA, pC, pZ]
   refine gp_nil (late_ rfl rfl (v := (.int .i64 0)) (fun w139 hCw139 hF_ => ?_) ?_)
   ·obtain ⟨F160, g161, _, rfl, hx162⟩ := hF_.get 6 (by kernel_rfl) rfl rfl
    exact fun w1 => pureAt_of (ex_extract rfl rfl)
   intro w163 hC165 hF166
   obtain ⟨n167, rfl, hn168, hb169⟩ := hF166.getR 10 rfl rfl
   have hnbn167 : ∀ u ∈ [(.int .i64 0), (.slice none 0 0), (.slice none 0 0)], ∀ x, u ≠ bv x := by intro u hu x; simp only [List.mem_cons, List.not_mem_nil, or_false] at hu; rcases hu with rfl | rfl | rfl <;> (unfold bv; simp)
   obtain ⟨F170, g171, R172⟩ := hF166.get 8 rfl rfl
   have g173 := g171.dropF S116.sat hn168
   have R174 := TxV.dropT g171.sat hb169 hnbn167 R172
   have S164 := St.addBlk (cs := [(.int .i64 0), (.slice none 0 0), (.slice none 0 0)]) S116 g173 hn168 (dropF_at _ _) hb169
   have le176 : Le _ _ := g173.le S116.sat
   have R177 := R174
   generalize (dropF F170 n167) = F175 at *
   obtain ⟨xa178, xc179, xa180, xc181, rfl, r182, r183⟩ := R177
   clear hF166
   have S164 : St w F w163 F175 [⟨n167, [(.int .i64 0), (.slice none 0 0), (.slice none 0 0)], 75⟩, ⟨n6, [(.int .i64 (txW (writesN l k)).start), (.slice x0 (txW (writesN l k)).reads.length x1), (.slice x2 (txW (writesN l k)).writes.length x3)], 75⟩, ⟨n2, [(.int .i64 0), (.slice none 0 0), (.slice none 0 0)], 75⟩] [] := S164
   simp only [pS, pN, pA, pC, pZ]
   refine stLate (i := 0) (v := (.agg #[(.int .i64 (txW (writesN l (k + 1))).start), (.slice xa178 (txW (writesN l (k + 1))).reads.length xc179), (.slice xa180 (txW (writesN l (k + 1))).writes.length xc181)])) S164 rfl rfl rfl (size_75) (allc3 rfl rfl rfl) (Nat.le_of_ble_eq_true rfl) (fun w184 S185 => ?_)
   have S185 : St w F w184 F175 [⟨n167, [(.int .i64 (txW (writesN l (k + 1))).start), (.slice xa178 (txW (writesN l (k + 1))).reads.length xc179), (.slice xa180 (txW (writesN l (k + 1))).writes.length xc181)], 75⟩, ⟨n6, [(.int .i64 (txW (writesN l k)).start), (.slice x0 (txW (writesN l k)).reads.length x1), (.slice x2 (txW (writesN l k)).writes.length x3)], 75⟩, ⟨n2, [(.int .i64 0), (.slice none 0 0), (.slice none 0 0)], 75⟩] [] := S185
   refine do_ rfl (.int .i64 0) (ex_assign _) ?_
   simp only [pS, pN, pA, pC, pZ]
   refine wl_nil (hK122 _ _ ?_)
   refine wp_seq_k (fun K186 hK186 => ?_)
   refine wp_seq_k (fun K187 hK187 => region_wl ?_)
   refine do_ rfl (.int .i64 0) (ex_move _) ?_
   simp only [pS, pN, pA, pC, pZ]
   refine do_ rfl (.bool false) (ex_neq (b := false) rfl rfl (by decide)) ?_
   simp only [pS, pN, pA, pC, pZ]
   refine wl_nil (hK187 _ _ ?_)
   refine wp_cond_false rfl ?_
   refine wp_skip ?_
   refine hK186 _ _ ?_
   refine region_wl ?_
   refine do_ rfl (.agg #[(.int .i64 (txW (writesN l (k + 1))).start), (.slice xa178 (txW (writesN l (k + 1))).reads.length xc179), (.slice xa180 (txW (writesN l (k + 1))).writes.length xc181)]) (ex_load rfl (loadN (cs := [(.int .i64 (txW (writesN l (k + 1))).start), (.slice xa178 (txW (writesN l (k + 1))).reads.length xc179), (.slice xa180 (txW (writesN l (k + 1))).writes.length xc181)]) Try.underlying75 rfl (size_75) (St.range S185 (i := 0) rfl 0 [(.int .i64 (txW (writesN l (k + 1))).start), (.slice xa178 (txW (writesN l (k + 1))).reads.length xc179), (.slice xa180 (txW (writesN l (k + 1))).writes.length xc181)] (sub_range 0 rfl)))) ?_
   simp only [pS, pN, pA, pC, pZ]
   refine stStore (i := 1) (v := (.agg #[(.int .i64 (txW (writesN l (k + 1))).start), (.slice xa178 (txW (writesN l (k + 1))).reads.length xc179), (.slice xa180 (txW (writesN l (k + 1))).writes.length xc181)])) S185 rfl rfl rfl rfl (size_75) (allc3 rfl rfl rfl) (Nat.le_of_ble_eq_true rfl) (fun w188 S189 => ?_)
   simp only [pS, pN, pA, pC, pZ]
   have S189 : St w F w188 F175 [⟨n167, [(.int .i64 (txW (writesN l (k + 1))).start), (.slice xa178 (txW (writesN l (k + 1))).reads.length xc179), (.slice xa180 (txW (writesN l (k + 1))).writes.length xc181)], 75⟩, ⟨n6, [(.int .i64 (txW (writesN l (k + 1))).start), (.slice xa178 (txW (writesN l (k + 1))).reads.length xc179), (.slice xa180 (txW (writesN l (k + 1))).writes.length xc181)], 75⟩, ⟨n2, [(.int .i64 0), (.slice none 0 0), (.slice none 0 0)], 75⟩] [] := S189
   refine wl_nil (hK121 _ _ ?_)
   refine region_wl ?_
   refine do_ rfl (.int .i64 ((k : Nat) : Int)) (ex_move _) ?_
   simp only [pS, pN, pA, pC, pZ]
   refine do_ rfl (.int .i64 (((k + 1) : Nat) : Int)) (ex_add (m := ((k : Nat) : Int)) (n := (1 : Int)) (r := (((k + 1) : Nat) : Int)) rfl rfl (by omega) (by omega) (by omega)) ?_
   simp only [pS, pN, pA, pC, pZ]
   refine do_ rfl (.int .i64 (((k + 1) : Nat) : Int)) (ex_assign _) ?_
   simp only [pS, pN, pA, pC, pZ]
   refine wl_nil ?_
   have S189 := St.drop S189 (L' := [⟨n6, [(.int .i64 (txW (writesN l (k + 1))).start), (.slice xa178 (txW (writesN l (k + 1))).reads.length xc179), (.slice xa180 (txW (writesN l (k + 1))).writes.length xc181)], 75⟩, ⟨n2, [(.int .i64 0), (.slice none 0 0), (.slice none 0 0)], 75⟩]) (.cons _ (List.Sublist.refl _))
   exact hK118 _ _ _ (by omega) ⟨(k + 1), xa178, xc179, xa180, xc181, F175, _, rfl, rfl, rfl, S189, (le117.trans le176), ⟨by omega, by omega⟩, r182, r183⟩
  ·refine do_ rfl (.bool false) (ex_lss (m := ((k : Nat) : Int)) (n := (8 : Int)) (b := false) rfl rfl (decide_eq_false (by omega))) ?_
   simp only [pS, pN, pA, pC, pZ]
   refine do_ rfl (.bool false) (ex_pick (b := true) rfl) ?_
   simp only [pS, pN, pA, pC, pZ]
   refine wl_nil (hK120 _ _ ?_)
   refine wp_cond_false rfl ?_
   refine wp_exit ?_
   have hend : writesN l k = writesN l 8 := by first | exact writesN_end (by omega) hk.2 | (have : k = 8 := by omega); rw [this]
   rw [hend] at qr qw S116
   exact hJ16 _ _ ⟨x0, x1, x2, x3, F110, _, rfl, rfl, S116, le117, qr, qw⟩
 ·refine do_ rfl (.bool false) (ex_lss (m := ((k : Nat) : Int)) (n := ((l.length : Nat) : Int)) (b := false) rfl rfl (decide_eq_false (by omega))) ?_
  simp only [pS, pN, pA, pC, pZ]
  refine do_ rfl (.bool false) (ex_move _) ?_
  simp only [pS, pN, pA, pC, pZ]
  refine doN (wanted_no rfl rfl rfl (c := false) rfl (by decide)) ?_
  simp only [pS, pN, pA, pC, pZ]
  refine doN (wanted_no rfl rfl rfl (c := false) rfl (by decide)) ?_
  simp only [pS, pN, pA, pC, pZ]
  refine do_ rfl (.bool false) (ex_pick (b := false) rfl) ?_
  simp only [pS, pN, pA, pC, pZ]
  refine wl_nil (hK120 _ _ ?_)
  refine wp_cond_false rfl ?_
  refine wp_exit ?_
  have hend : writesN l k = writesN l 8 := by first | exact writesN_end (by omega) hk.2 | (have : k = 8 := by omega); rw [this]
  rw [hend] at qr qw S116
  exact hJ16 _ _ ⟨x0, x1, x2, x3, F110, _, rfl, rfl, S116, le117, qr, qw⟩
end Go.Proofs.Ytcpngkkconalhaa
namespace Go.Proofs.Ytcpngkkconalhaa
open Go.RowKit
set_option maxRecDepth 100000
set_option linter.unusedVariables false
set_option linter.unusedSimpArgs false
theorem geq_cmp (a b : By) : (!Op.bytesLess a b) = decide (0 ≤ cmpL a b) := by
  rw [Bool.eq_iff_iff, decide_eq_true_iff, Bool.not_eq_true', ← Bool.not_eq_true, show (Op.bytesLess a b = true) ↔ cmpL a b < 0 from cmpL_lt.symm]
  omega
theorem leq_cmp (a b : By) : (!Op.bytesLess b a) = decide (cmpL a b ≤ 0) := by
  rw [Bool.eq_iff_iff, decide_eq_true_iff, Bool.not_eq_true', ← Bool.not_eq_true, show (Op.bytesLess b a = true) ↔ 0 < cmpL a b from cmpL_gt.symm]
  omega
set_option maxHeartbeats 8000000 in
theorem touches_spec (F : Fz) (w : World) (v u : Value) (r : Rd) (p : Wr) (hs : Sat w F) (hv : RdV F v r) (hu : WrV F u p) :
    Calls Try.prog 85 #[v, u] w (Tells w (.bool (touchesX r p))) := by
 obtain ⟨x0, x1, x2, x3, x4, x5, rfl, h0, h1, h3⟩ := hv
 obtain ⟨y0, y1, y2, y3, y4, y5, rfl, k0, k1, k3⟩ := hu
 have S := St.start hs
 go_enter Try.func85, Try.ntmps85
 refine wp_seq_k (fun K1 hK1 => region_wl ?_)
 refine stNew S (v := fun n => .pointer (some ⟨n, 0, none⟩)) rfl (ex_box (v := (.agg #[(.slice x0 r.name.length x1), (.slice x2 r.key.length x3), (.bool r.wide), (.slice x4 r.last.length x5)])) rfl) (fun n2 w3 S4 => ?_)
 simp only [pS, pN, pA, pC, pZ]
 have S4 : St w F w3 F [⟨n2, [(.slice x0 r.name.length x1), (.slice x2 r.key.length x3), (.bool r.wide), (.slice x4 r.last.length x5)], 83⟩] [] := S4
 refine stNew S4 (v := fun n => .pointer (some ⟨n, 0, none⟩)) rfl (ex_box (v := (.agg #[(.slice y0 p.name.length y1), (.slice y2 p.key.length y3), (.bool p.gone), (.slice y4 p.value.length y5)])) rfl) (fun n5 w6 S7 => ?_)
 simp only [pS, pN, pA, pC, pZ]
 have S7 : St w F w6 F [⟨n5, [(.slice y0 p.name.length y1), (.slice y2 p.key.length y3), (.bool p.gone), (.slice y4 p.value.length y5)], 27⟩, ⟨n2, [(.slice x0 r.name.length x1), (.slice x2 r.key.length x3), (.bool r.wide), (.slice x4 r.last.length x5)], 83⟩] [] := S7
 refine do_ rfl (.bool false) (ex_assign _) ?_
 simp only [pS, pN, pA, pC, pZ]
 refine wl_nil (hK1 _ _ ?_)
 refine wp_seq_k (fun K8 hK8 => ?_)
 refine wp_seq_k (fun K9 hK9 => ?_)
 by_cases e1 : r.name = p.name
 ·refine region_wl ?_
  refine do_ rfl (.pointer (some ⟨n2, 0, none⟩)) (ex_field (q := ⟨n2, 0, none⟩) rfl (fa_83_0 _ _)) ?_
  simp only [pS, pN, pA, pC, pZ]
  refine do_ rfl (.slice x0 r.name.length x1) (ex_load rfl (load1 (nagg_25 _) (St.cell S7 (i := 1) rfl rfl))) ?_
  simp only [pS, pN, pA, pC, pZ]
  refine do_ rfl (.pointer (some ⟨n5, 0, none⟩)) (ex_field (q := ⟨n5, 0, none⟩) rfl (fa_27_0 _ _)) ?_
  simp only [pS, pN, pA, pC, pZ]
  refine do_ rfl (.slice y0 p.name.length y1) (ex_load rfl (load1 (nagg_25 _) (St.cell S7 (i := 0) rfl rfl))) ?_
  simp only [pS, pN, pA, pC, pZ]
  refine stTells (v := (.bool true)) S7 rfl (ex_fn (vs := #[(.slice x0 r.name.length x1), (.slice y0 p.name.length y1)]) (map2 rfl rfl) rfl (ent_87 _ _)) (tells_bool (bytesEqual_spec _ _ _ _ r.name p.name (S7).sat h0 k0) (beq_iff_eq.2 (e1))) (fun w10 S11 => ?_)
  simp only [pS, pN, pA, pC, pZ]
  refine do_ rfl (.bool false) (ex_not (b := true) rfl rfl) ?_
  simp only [pS, pN, pA, pC, pZ]
  refine wl_nil (hK9 _ _ ?_)
  refine wp_cond_false rfl ?_
  refine wp_skip ?_
  refine hK8 _ _ ?_
  refine wp_seq_k (fun K12 hK12 => ?_)
  refine wp_seq_k (fun K13 hK13 => ?_)
  cases hwd : r.wide with
  | false =>
   rw [hwd] at S11
   refine region_wl ?_
   refine do_ rfl (.pointer (some ⟨n2, 2, none⟩)) (ex_field (q := ⟨n2, 2, none⟩) rfl (fa_83_2 _ _)) ?_
   simp only [pS, pN, pA, pC, pZ]
   refine do_ rfl (.bool false) (ex_load rfl (load1 (nagg_4 _) (St.cell S11 (i := 1) rfl rfl))) ?_
   simp only [pS, pN, pA, pC, pZ]
   refine do_ rfl (.bool true) (ex_not (b := false) rfl rfl) ?_
   simp only [pS, pN, pA, pC, pZ]
   refine wl_nil (hK13 _ _ ?_)
   refine wp_cond_true rfl ?_
   refine wp_seq_k (fun K14 hK14 => region_wl ?_)
   refine do_ rfl (.pointer (some ⟨n2, 1, none⟩)) (ex_field (q := ⟨n2, 1, none⟩) rfl (fa_83_1 _ _)) ?_
   simp only [pS, pN, pA, pC, pZ]
   refine do_ rfl (.slice x2 r.key.length x3) (ex_load rfl (load1 (nagg_25 _) (St.cell S11 (i := 1) rfl rfl))) ?_
   simp only [pS, pN, pA, pC, pZ]
   refine do_ rfl (.pointer (some ⟨n5, 1, none⟩)) (ex_field (q := ⟨n5, 1, none⟩) rfl (fa_27_1 _ _)) ?_
   simp only [pS, pN, pA, pC, pZ]
   refine do_ rfl (.slice y2 p.key.length y3) (ex_load rfl (load1 (nagg_25 _) (St.cell S11 (i := 0) rfl rfl))) ?_
   simp only [pS, pN, pA, pC, pZ]
   refine stTells (v := (.bool (r.key == p.key))) S11 rfl (ex_fn (vs := #[(.slice x2 r.key.length x3), (.slice y2 p.key.length y3)]) (map2 rfl rfl) rfl (ent_87 _ _)) (bytesEqual_spec _ _ _ _ r.key p.key (S11).sat h1 k1) (fun w15 S16 => ?_)
   simp only [pS, pN, pA, pC, pZ]
   refine do_ rfl (.bool (r.key == p.key)) (ex_assign _) ?_
   simp only [pS, pN, pA, pC, pZ]
   refine wl_nil (hK14 _ _ ?_)
   refine wp_ret ?_
   (try simp only [Exit.then, Exit.inBlock, ↓reduceIte, Nat.reduceEqDiff])
   refine bodyPost_ret (v := (.bool (r.key == p.key))) ?_ rfl ?_
   ·exact res_t rfl rfl
   ·exact ⟨by unfold touchesX; rw [beq_iff_eq.2 e1, hwd]; rfl, S16.gr.below⟩
  | true =>
   rw [hwd] at S11
   refine region_wl ?_
   refine do_ rfl (.pointer (some ⟨n2, 2, none⟩)) (ex_field (q := ⟨n2, 2, none⟩) rfl (fa_83_2 _ _)) ?_
   simp only [pS, pN, pA, pC, pZ]
   refine do_ rfl (.bool true) (ex_load rfl (load1 (nagg_4 _) (St.cell S11 (i := 1) rfl rfl))) ?_
   simp only [pS, pN, pA, pC, pZ]
   refine do_ rfl (.bool false) (ex_not (b := true) rfl rfl) ?_
   simp only [pS, pN, pA, pC, pZ]
   refine wl_nil (hK13 _ _ ?_)
   refine wp_cond_false rfl ?_
   refine wp_skip ?_
   refine hK12 _ _ ?_
   refine wp_seq_k (fun K17 hK17 => region_wl ?_)
   refine do_ rfl (.pointer (some ⟨n5, 1, none⟩)) (ex_field (q := ⟨n5, 1, none⟩) rfl (fa_27_1 _ _)) ?_
   simp only [pS, pN, pA, pC, pZ]
   refine do_ rfl (.slice y2 p.key.length y3) (ex_load rfl (load1 (nagg_25 _) (St.cell S11 (i := 0) rfl rfl))) ?_
   simp only [pS, pN, pA, pC, pZ]
   refine do_ rfl (.pointer (some ⟨n2, 1, none⟩)) (ex_field (q := ⟨n2, 1, none⟩) rfl (fa_83_1 _ _)) ?_
   simp only [pS, pN, pA, pC, pZ]
   refine do_ rfl (.slice x2 r.key.length x3) (ex_load rfl (load1 (nagg_25 _) (St.cell S11 (i := 1) rfl rfl))) ?_
   simp only [pS, pN, pA, pC, pZ]
   refine stTells (v := (.int .i64 (cmpL p.key r.key))) S11 rfl (ex_fn (vs := #[(.slice y2 p.key.length y3), (.slice x2 r.key.length x3)]) (map2 rfl rfl) rfl (ent_70 _ _)) (bytesCompare_spec _ _ _ _ p.key r.key (S11).sat k1 h1) (fun w18 S19 => ?_)
   simp only [pS, pN, pA, pC, pZ]
   by_cases hc24 : (0 : Int) ≤ (cmpL p.key r.key)
   ·refine do_ rfl (.bool true) (ex_geq (m := (cmpL p.key r.key)) (n := (0 : Int)) (b := true) rfl rfl (decide_eq_true (by omega))) ?_
    simp only [pS, pN, pA, pC, pZ]
    refine do_ rfl (.bool true) (ex_move _) ?_
    simp only [pS, pN, pA, pC, pZ]
    refine do_ rfl (.pointer (some ⟨n5, 1, none⟩)) (ex_field (q := ⟨n5, 1, none⟩) rfl (fa_27_1 _ _)) ?_
    simp only [pS, pN, pA, pC, pZ]
    refine do_ rfl (.slice y2 p.key.length y3) (ex_load rfl (load1 (nagg_25 _) (St.cell S19 (i := 0) rfl rfl))) ?_
    simp only [pS, pN, pA, pC, pZ]
    refine do_ rfl (.pointer (some ⟨n2, 3, none⟩)) (ex_field (q := ⟨n2, 3, none⟩) rfl (fa_83_3 _ _)) ?_
    simp only [pS, pN, pA, pC, pZ]
    refine do_ rfl (.slice x4 r.last.length x5) (ex_load rfl (load1 (nagg_25 _) (St.cell S19 (i := 1) rfl rfl))) ?_
    simp only [pS, pN, pA, pC, pZ]
    refine stTells (v := (.int .i64 (cmpL p.key r.last))) S19 rfl (ex_fn (vs := #[(.slice y2 p.key.length y3), (.slice x4 r.last.length x5)]) (map2 rfl rfl) rfl (ent_70 _ _)) (bytesCompare_spec _ _ _ _ p.key r.last (S19).sat k1 h3) (fun w20 S21 => ?_)
    simp only [pS, pN, pA, pC, pZ]
    by_cases hc31 : (cmpL p.key r.last) ≤ (0 : Int)
    ·refine do_ rfl (.bool true) (ex_leq (m := (cmpL p.key r.last)) (n := (0 : Int)) (b := true) rfl rfl (decide_eq_true (by omega))) ?_
     simp only [pS, pN, pA, pC, pZ]
     refine do_ rfl (.bool true) (ex_pick (b := true) rfl) ?_
     simp only [pS, pN, pA, pC, pZ]
     refine do_ rfl (.bool true) (ex_assign _) ?_
     simp only [pS, pN, pA, pC, pZ]
     refine wl_nil (hK17 _ _ ?_)
     refine wp_ret ?_
     (try simp only [Exit.then, Exit.inBlock, ↓reduceIte, Nat.reduceEqDiff])
     refine bodyPost_ret (v := (.bool true)) ?_ rfl ?_
     ·exact res_t rfl rfl
     ·exact ⟨by unfold touchesX; rw [beq_iff_eq.2 e1, hwd]; simp only [if_true, Bool.true_and]; rw [geq_cmp, leq_cmp]; first | rw [decide_eq_true (by omega), decide_eq_true (by omega)]; rfl | rw [decide_eq_true (by omega), decide_eq_false (by omega)]; rfl | rw [decide_eq_false (by omega)]; rfl, S21.gr.below⟩
    ·refine do_ rfl (.bool false) (ex_leq (m := (cmpL p.key r.last)) (n := (0 : Int)) (b := false) rfl rfl (decide_eq_false (by omega))) ?_
     simp only [pS, pN, pA, pC, pZ]
     refine do_ rfl (.bool false) (ex_pick (b := true) rfl) ?_
     simp only [pS, pN, pA, pC, pZ]
     refine do_ rfl (.bool false) (ex_assign _) ?_
     simp only [pS, pN, pA, pC, pZ]
     refine wl_nil (hK17 _ _ ?_)
     refine wp_ret ?_
     (try simp only [Exit.then, Exit.inBlock, ↓reduceIte, Nat.reduceEqDiff])
     refine bodyPost_ret (v := (.bool false)) ?_ rfl ?_
     ·exact res_t rfl rfl
     ·exact ⟨by unfold touchesX; rw [beq_iff_eq.2 e1, hwd]; simp only [if_true, Bool.true_and]; rw [geq_cmp, leq_cmp]; first | rw [decide_eq_true (by omega), decide_eq_true (by omega)]; rfl | rw [decide_eq_true (by omega), decide_eq_false (by omega)]; rfl | rw [decide_eq_false (by omega)]; rfl, S21.gr.below⟩
   ·refine do_ rfl (.bool false) (ex_geq (m := (cmpL p.key r.key)) (n := (0 : Int)) (b := false) rfl rfl (decide_eq_false (by omega))) ?_
    simp only [pS, pN, pA, pC, pZ]
    refine do_ rfl (.bool false) (ex_move _) ?_
    simp only [pS, pN, pA, pC, pZ]
    refine doN (wanted_no rfl rfl rfl (c := false) rfl (by decide)) ?_
    simp only [pS, pN, pA, pC, pZ]
    refine doN (wanted_no rfl rfl rfl (c := false) rfl (by decide)) ?_
    simp only [pS, pN, pA, pC, pZ]
    refine doN (wanted_no rfl rfl rfl (c := false) rfl (by decide)) ?_
    simp only [pS, pN, pA, pC, pZ]
    refine doN (wanted_no rfl rfl rfl (c := false) rfl (by decide)) ?_
    simp only [pS, pN, pA, pC, pZ]
    refine doN (wanted_no rfl rfl rfl (c := false) rfl (by decide)) ?_
    simp only [pS, pN, pA, pC, pZ]
    refine doN (wanted_no rfl rfl rfl (c := false) rfl (by decide)) ?_
    simp only [pS, pN, pA, pC, pZ]
    refine do_ rfl (.bool false) (ex_pick (b := false) rfl) ?_
    simp only [pS, pN, pA, pC, pZ]
    refine do_ rfl (.bool false) (ex_assign _) ?_
    simp only [pS, pN, pA, pC, pZ]
    refine wl_nil (hK17 _ _ ?_)
    refine wp_ret ?_
    (try simp only [Exit.then, Exit.inBlock, ↓reduceIte, Nat.reduceEqDiff])
    refine bodyPost_ret (v := (.bool false)) ?_ rfl ?_
    ·exact res_t rfl rfl
    ·exact ⟨by unfold touchesX; rw [beq_iff_eq.2 e1, hwd]; simp only [if_true, Bool.true_and]; rw [geq_cmp, leq_cmp]; first | rw [decide_eq_true (by omega), decide_eq_true (by omega)]; rfl | rw [decide_eq_true (by omega), decide_eq_false (by omega)]; rfl | rw [decide_eq_false (by omega)]; rfl, S19.gr.below⟩
 ·refine region_wl ?_
  refine do_ rfl (.pointer (some ⟨n2, 0, none⟩)) (ex_field (q := ⟨n2, 0, none⟩) rfl (fa_83_0 _ _)) ?_
  simp only [pS, pN, pA, pC, pZ]
  refine do_ rfl (.slice x0 r.name.length x1) (ex_load rfl (load1 (nagg_25 _) (St.cell S7 (i := 1) rfl rfl))) ?_
  simp only [pS, pN, pA, pC, pZ]
  refine do_ rfl (.pointer (some ⟨n5, 0, none⟩)) (ex_field (q := ⟨n5, 0, none⟩) rfl (fa_27_0 _ _)) ?_
  simp only [pS, pN, pA, pC, pZ]
  refine do_ rfl (.slice y0 p.name.length y1) (ex_load rfl (load1 (nagg_25 _) (St.cell S7 (i := 0) rfl rfl))) ?_
  simp only [pS, pN, pA, pC, pZ]
  refine stTells (v := (.bool false)) S7 rfl (ex_fn (vs := #[(.slice x0 r.name.length x1), (.slice y0 p.name.length y1)]) (map2 rfl rfl) rfl (ent_87 _ _)) (tells_bool (bytesEqual_spec _ _ _ _ r.name p.name (S7).sat h0 k0) (beq_eq_false_iff_ne.2 (e1))) (fun w22 S23 => ?_)
  simp only [pS, pN, pA, pC, pZ]
  refine do_ rfl (.bool true) (ex_not (b := false) rfl rfl) ?_
  simp only [pS, pN, pA, pC, pZ]
  refine wl_nil (hK9 _ _ ?_)
  refine wp_cond_true rfl ?_
  refine wp_seq_k (fun K24 hK24 => region_wl ?_)
  refine do_ rfl (.bool false) (ex_assign _) ?_
  simp only [pS, pN, pA, pC, pZ]
  refine wl_nil (hK24 _ _ ?_)
  refine wp_ret ?_
  (try simp only [Exit.then, Exit.inBlock, ↓reduceIte, Nat.reduceEqDiff])
  refine bodyPost_ret (v := (.bool false)) ?_ rfl ?_
  ·exact res_t rfl rfl
  ·exact ⟨by unfold touchesX; rw [beq_eq_false_iff_ne.2 e1]; rfl, S23.gr.below⟩
set_option maxHeartbeats 8000000 in
theorem clash1_clos (F : Fz) (w : World) (v : Value) (b : Nat) (q : Rd) (r : Wr) (hs : Sat w F) (hv : RdV F v q) (hr : WrP F b r) :
    Calls Try.prog 84 #[v, .pointer (some ⟨b, 0, none⟩)] w (Tells w (.bool (touchesX q r))) := by
 obtain ⟨x0, x1, x2, x3, x4, x5, rfl, h0, h1, h3⟩ := hv
 obtain ⟨z0, z1, z2, z3, z4, z5, c0, c1, c2, c3, k0, k1, k3⟩ := hr
 have S := St.start hs
 go_enter Try.func84, Try.ntmps84
 refine wp_seq_k (fun K1 hK1 => region_wl ?_)
 refine stNew S (v := fun n => .pointer (some ⟨n, 0, none⟩)) rfl (ex_box (v := (.agg #[(.slice x0 q.name.length x1), (.slice x2 q.key.length x3), (.bool q.wide), (.slice x4 q.last.length x5)])) rfl) (fun n2 w3 S4 => ?_)
 simp only [pS, pN, pA, pC, pZ]
 have S4 : St w F w3 F [⟨n2, [(.slice x0 q.name.length x1), (.slice x2 q.key.length x3), (.bool q.wide), (.slice x4 q.last.length x5)], 83⟩] [] := S4
 refine do_ rfl (.bool false) (ex_assign _) ?_
 simp only [pS, pN, pA, pC, pZ]
 refine wl_nil (hK1 _ _ ?_)
 refine wp_seq_k (fun K5 hK5 => region_wl ?_)
 refine do_ rfl (.agg #[(.slice x0 q.name.length x1), (.slice x2 q.key.length x3), (.bool q.wide), (.slice x4 q.last.length x5)]) (ex_load rfl (loadN (cs := [(.slice x0 q.name.length x1), (.slice x2 q.key.length x3), (.bool q.wide), (.slice x4 q.last.length x5)]) Try.underlying83 rfl (size_83) (St.range S4 (i := 0) rfl 0 [(.slice x0 q.name.length x1), (.slice x2 q.key.length x3), (.bool q.wide), (.slice x4 q.last.length x5)] (sub_range 0 rfl)))) ?_
 simp only [pS, pN, pA, pC, pZ]
 refine do_ rfl (.agg #[(.slice z0 r.name.length z1), (.slice z2 r.key.length z3), (.bool r.gone), (.slice z4 r.value.length z5)]) (ex_load rfl (loadN (cs := [(.slice z0 r.name.length z1), (.slice z2 r.key.length z3), (.bool r.gone), (.slice z4 r.value.length z5)]) Try.underlying27 rfl (size_27) (range4 (St.fz S4 c0) (St.fz S4 c1) (St.fz S4 c2) (St.fz S4 c3)))) ?_
 simp only [pS, pN, pA, pC, pZ]
 refine stTells (v := (.bool (touchesX q r))) S4 rfl (ex_fn (vs := #[(.agg #[(.slice x0 q.name.length x1), (.slice x2 q.key.length x3), (.bool q.wide), (.slice x4 q.last.length x5)]), (.agg #[(.slice z0 r.name.length z1), (.slice z2 r.key.length z3), (.bool r.gone), (.slice z4 r.value.length z5)])]) (map2 rfl rfl) rfl (ent_85 _ _)) (touches_spec _ _ _ _ _ _ (S4).sat ⟨_, _, _, _, _, _, rfl, h0, h1, h3⟩ ⟨_, _, _, _, _, _, rfl, k0, k1, k3⟩) (fun w6 S7 => ?_)
 simp only [pS, pN, pA, pC, pZ]
 refine do_ rfl (.bool (touchesX q r)) (ex_assign _) ?_
 simp only [pS, pN, pA, pC, pZ]
 refine wl_nil (hK5 _ _ ?_)
 refine wp_ret ?_
 (try simp only [Exit.then, Exit.inBlock, ↓reduceIte, Nat.reduceEqDiff])
 refine bodyPost_ret (v := (.bool (touchesX q r))) ?_ rfl ?_
 ·exact res_t rfl rfl
 ·exact ⟨rfl, S7.gr.below⟩
set_option maxHeartbeats 8000000 in
theorem clash1_index (F : Fz) (w : World) (v : Value) (b : Nat) (l : List Rd) (r : Wr) (hs : Sat w F) (hv : Rds F v l) (hr : WrP F b r) (hl : l.length ≤ 1000000) :
    Calls Try.prog 99 #[v, .func (.func 84) #[] #[.pointer (some ⟨b, 0, none⟩)]] w (Tells w (.int .i64 (idxE l (fun q : Rd => (touchesX q r))))) := by
 obtain ⟨a, c, rfl, hc1, hc2⟩ := Sl.shape hv
 unfold maxLen at hc2
 have S := St.start hs
 go_enter Try.func99, Try.ntmps99
 refine wp_seq_k (fun K1 hK1 => region_wl ?_)
 refine do_ rfl (.int .i64 0) (ex_assign _) ?_
 simp only [pS, pN, pA, pC, pZ]
 refine wl_nil (hK1 _ _ ?_)
 refine wp_seq_k (fun K2 hK2 => ?_)
 refine wp_seq_k (fun K3 hK3 => region_wl ?_)
 refine do_ rfl (.slice a l.length c) (ex_move _) ?_
 simp only [pS, pN, pA, pC, pZ]
 refine do_ rfl (.int .i64 ((l.length : Nat) : Int)) (ex_len Try.underlying73 rfl) ?_
 simp only [pS, pN, pA, pC, pZ]
 refine do_ rfl (.int .i64 0) (ex_move _) ?_
 simp only [pS, pN, pA, pC, pZ]
 refine wl_nil (hK3 _ _ ?_)
 refine wp_block ?_
 refine wp_loop_g (fun mm aa w5 => ∃ (k : Nat) (u4 : Nat → Value), mm = l.length - k ∧ u4 = slots aa ∧ aa = ⟨#[(.slice a l.length c), (.func (.func 84) #[] #[(.pointer (some ⟨b, 0, none⟩))]), undef, undef, (u4 4), (u4 5), (.slice a l.length c), (.int .i64 ((l.length : Nat) : Int)), (.int .i64 ((k : Nat) : Int)), (u4 9), (u4 10), (u4 11), (u4 12), (u4 13), (u4 14), (u4 15), (u4 16), (u4 17), (u4 18)], []⟩ ∧ St w F w5 F [] [] ∧ (k ≤ l.length) ∧ (∀ (i : Nat) q, i < k → l[i]? = some q → (fun q : Rd => (touchesX q r)) q = false)) _ ⟨0, _, rfl, rfl, rfl, S, (by omega), (fun i q hi => absurd hi (by omega))⟩ ?_
 rintro m6 a7 w8 ⟨k, u4, rfl, -, rfl, S9, hk, hbad⟩ K11 hK11
 refine wp_seq_k (fun K12 hK12 => region_wl ?_)
 by_cases hc9 : k < l.length
 ·refine do_ rfl (.bool true) (ex_lss (m := ((k : Nat) : Int)) (n := ((l.length : Nat) : Int)) (b := true) rfl rfl (decide_eq_true (by omega))) ?_
  simp only [pS, pN, pA, pC, pZ]
  refine wl_nil (hK12 _ _ ?_)
  refine wp_seq_k (fun K13 hK13 => ?_)
  refine wp_cond_true rfl ?_
  refine wp_skip ?_
  refine hK13 _ _ ?_
  refine wp_seq_k (fun K14 hK14 => ?_)
  refine wp_block ?_
  refine wp_seq_k (fun K15 hK15 => region_wl ?_)
  refine do_ rfl (.int .i64 ((k : Nat) : Int)) (ex_move _) ?_
  simp only [pS, pN, pA, pC, pZ]
  refine do_ rfl (.int .i64 ((k : Nat) : Int)) (ex_assign _) ?_
  simp only [pS, pN, pA, pC, pZ]
  refine wl_nil (hK15 _ _ ?_)
  refine wp_seq_k (fun K16 hK16 => ?_)
  obtain ⟨p, hp⟩ : ∃ p, l[k]? = some p := ⟨l[k], List.getElem?_eq_getElem hc9⟩
  obtain ⟨b17, o18, ha19, xa21, xc22, xa25, xc26, xa30, xc31, c20, c24, c28, c29, r23, r27, r32⟩ := Rds.get hv hp
  refine region_wl ?_
  refine do_ rfl (.func (.func 84) #[] #[(.pointer (some ⟨b, 0, none⟩))]) (ex_move _) ?_
  simp only [pS, pN, pA, pC, pZ]
  refine do_ rfl (.slice a l.length c) (ex_move _) ?_
  simp only [pS, pN, pA, pC, pZ]
  refine do_ rfl (.int .i64 ((k : Nat) : Int)) (ex_move _) ?_
  simp only [pS, pN, pA, pC, pZ]
  refine do_ rfl (.pointer (some ⟨b17, o18 + k * 4, none⟩)) (ex_at (i := k) (sz := 4) Try.underlying73 (sizeof_83 _) rfl ha19 rfl (by omega) rfl) ?_
  simp only [pS, pN, pA, pC, pZ]
  refine do_ rfl (.agg #[(.slice xa21 p.name.length xc22), (.slice xa25 p.key.length xc26), (.bool p.wide), (.slice xa30 p.last.length xc31)]) (ex_load rfl (loadN (cs := [(.slice xa21 p.name.length xc22), (.slice xa25 p.key.length xc26), (.bool p.wide), (.slice xa30 p.last.length xc31)]) Try.underlying83 rfl (size_83) (range4 (St.fz S9 c20) (St.fz S9 c24) (St.fz S9 c28) (St.fz S9 c29)))) ?_
  simp only [pS, pN, pA, pC, pZ]
  refine stTells (v := (.bool ((fun q : Rd => (touchesX q r)) p))) S9 rfl (ex_fv (fs := #[]) (cs := #[(.pointer (some ⟨b, 0, none⟩))]) (vs := #[(.agg #[(.slice xa21 p.name.length xc22), (.slice xa25 p.key.length xc26), (.bool p.wide), (.slice xa30 p.last.length xc31)]), (.pointer (some ⟨b, 0, none⟩))]) rfl (vmap (fs := #[]) (cs := #[(.pointer (some ⟨b, 0, none⟩))]) (xs := #[(.agg #[(.slice xa21 p.name.length xc22), (.slice xa25 p.key.length xc26), (.bool p.wide), (.slice xa30 p.last.length xc31)])]) (map1 rfl) (by simp)) (ent_84 _ _)) (clash1_clos _ _ _ b p r (S9).sat ⟨_, _, _, _, _, _, rfl, r23, r27, r32⟩ hr) (fun w33 S34 => ?_)
  simp only [pS, pN, pA, pC, pZ]
  refine wl_nil (hK16 _ _ ?_)
  refine wp_cond_split rfl (fun hc35 => ?_) (fun hc35 => ?_)
  ·refine wp_seq_k (fun K36 hK36 => region_wl ?_)
   refine do_ rfl (.int .i64 ((k : Nat) : Int)) (ex_move _) ?_
   simp only [pS, pN, pA, pC, pZ]
   refine do_ rfl (.int .i64 ((k : Nat) : Int)) (ex_assign _) ?_
   simp only [pS, pN, pA, pC, pZ]
   refine wl_nil (hK36 _ _ ?_)
   refine wp_ret ?_
   (try simp only [Exit.then, Exit.inBlock, ↓reduceIte, Nat.reduceEqDiff])
   refine bodyPost_ret (v := (.int .i64 ((k : Nat) : Int))) ?_ rfl ?_
   ·exact res_t rfl rfl
   ·exact ⟨by rw [idxE_hit hp hc35 hbad], S34.gr.below⟩
  ·refine wp_skip ?_
   refine hK14 _ _ ?_
   refine region_wl ?_
   refine do_ rfl (.int .i64 (((k + 1) : Nat) : Int)) (ex_add (m := ((k : Nat) : Int)) (n := (1 : Int)) (r := (((k + 1) : Nat) : Int)) rfl rfl (by omega) (by omega) (by omega)) ?_
   simp only [pS, pN, pA, pC, pZ]
   refine do_ rfl (.int .i64 (((k + 1) : Nat) : Int)) (ex_move _) ?_
   simp only [pS, pN, pA, pC, pZ]
   refine wl_nil ?_
   exact hK11 _ _ _ (by omega) ⟨(k + 1), _, rfl, rfl, rfl, S34, (by omega), (fun i q hi hq => by rcases Nat.lt_succ_iff_lt_or_eq.1 hi with h | rfl; exact hbad i q h hq; (rw [hp] at hq; cases hq; exact hc35))⟩
 ·refine do_ rfl (.bool false) (ex_lss (m := ((k : Nat) : Int)) (n := ((l.length : Nat) : Int)) (b := false) rfl rfl (decide_eq_false (by omega))) ?_
  simp only [pS, pN, pA, pC, pZ]
  refine wl_nil (hK12 _ _ ?_)
  refine wp_seq_k (fun K37 hK37 => ?_)
  refine wp_cond_false rfl ?_
  refine wp_exit ?_
  refine hK2 _ _ ?_
  refine wp_seq_k (fun K38 hK38 => region_wl ?_)
  refine do_ rfl (.int .i64 (-1)) (ex_assign _) ?_
  simp only [pS, pN, pA, pC, pZ]
  refine wl_nil (hK38 _ _ ?_)
  refine wp_ret ?_
  (try simp only [Exit.then, Exit.inBlock, ↓reduceIte, Nat.reduceEqDiff])
  refine bodyPost_ret (v := (.int .i64 (-1))) ?_ rfl ?_
  ·exact res_t rfl rfl
  ·exact ⟨by rw [idxE_none (fun i q hi hq => hbad i q (by omega) hq)], S9.gr.below⟩
set_option maxHeartbeats 8000000 in
theorem clash1_contains (F : Fz) (w : World) (v : Value) (b : Nat) (l : List Rd) (r : Wr) (hs : Sat w F) (hv : Rds F v l) (hr : WrP F b r) (hl : l.length ≤ 1000000) :
    Calls Try.prog 80 #[v, .func (.func 84) #[] #[.pointer (some ⟨b, 0, none⟩)]] w (Tells w (.bool (l.any (fun q : Rd => (touchesX q r))))) := by
 obtain ⟨a, c, rfl, hc1, hc2⟩ := Sl.shape hv
 have S := St.start hs
 go_enter Try.func80, Try.ntmps80
 refine wp_seq_k (fun K1 hK1 => region_wl ?_)
 refine do_ rfl (.bool false) (ex_assign _) ?_
 simp only [pS, pN, pA, pC, pZ]
 refine wl_nil (hK1 _ _ ?_)
 refine wp_seq_k (fun K2 hK2 => region_wl ?_)
 refine do_ rfl (.slice a l.length c) (ex_move _) ?_
 simp only [pS, pN, pA, pC, pZ]
 refine do_ rfl (.func (.func 84) #[] #[(.pointer (some ⟨b, 0, none⟩))]) (ex_move _) ?_
 simp only [pS, pN, pA, pC, pZ]
 refine stTells (v := (.int .i64 (idxE l (fun q : Rd => (touchesX q r))))) S rfl (ex_fn (vs := #[(.slice a l.length c), (.func (.func 84) #[] #[(.pointer (some ⟨b, 0, none⟩))])]) (map2 rfl rfl) rfl (ent_99 _ _)) (clash1_index _ _ _ b l r (S).sat hv hr hl) (fun w3 S4 => ?_)
 simp only [pS, pN, pA, pC, pZ]
 refine do_ rfl (.bool (l.any (fun q : Rd => (touchesX q r)))) (ex_geq (m := idxE l (fun q : Rd => (touchesX q r))) (n := 0) (b := l.any (fun q : Rd => (touchesX q r))) rfl rfl idxE_any) ?_
 simp only [pS, pN, pA, pC, pZ]
 refine do_ rfl (.bool (l.any (fun q : Rd => (touchesX q r)))) (ex_assign _) ?_
 simp only [pS, pN, pA, pC, pZ]
 refine wl_nil (hK2 _ _ ?_)
 refine wp_ret ?_
 (try simp only [Exit.then, Exit.inBlock, ↓reduceIte, Nat.reduceEqDiff])
 refine bodyPost_ret (v := (.bool (l.any (fun q : Rd => (touchesX q r))))) ?_ rfl ?_
 ·exact res_t rfl rfl
 ·exact ⟨rfl, S4.gr.below⟩
def bothE (l : Forest) (t : Tx) : Int := if forestE l ≠ 0 then forestE l else txE t
theorem bothE_ok {l : Forest} {t : Tx} : bothE l t = 0 ↔ ForestOk 60 l ∧ TxOk t := by
  unfold bothE
  by_cases h : forestE l = 0
  · rw [if_neg (by simpa using h), txE_ok, ← forestE_ok]; exact ⟨fun k => ⟨h, k⟩, fun k => k.2⟩
  · rw [if_pos h]; exact ⟨fun k => absurd k h, fun k => absurd (forestE_ok.2 k.1) h⟩
set_option maxHeartbeats 8000000 in
theorem both_spec (F : Fz) (w : World) (u v : Value) (l : Forest) (t : Tx) (hs : Sat w F) (hl : Tns F u l) (hv : TxV F v t) (hbw : ∀ r ∈ t.writes, r.name.length ≤ 100000 ∧ r.key.length ≤ 100000 ∧ r.value.length ≤ 100000) :
    Calls Try.prog 86 #[u, v] w (Tells w (.int .i64 (bothE l t))) := by
 obtain ⟨a, c, rfl, hc1, hc2⟩ := Sl.shape hl
 obtain ⟨x0, y0, x1, y1, rfl, h0, h1⟩ := hv
 obtain ⟨_, _, e0, q0, q1⟩ := Sl.shape h0
 obtain ⟨_, _, e1, q2, q3⟩ := Sl.shape h1
 injection e0 with _ _ e0
 injection e1 with _ _ e1
 subst e0 e1
 unfold maxLen at q1 q3
 have S := St.start hs
 go_enter Try.func86, Try.ntmps86
 refine wp_seq_k (fun K1 hK1 => region_wl ?_)
 refine stNew S (v := fun n => .pointer (some ⟨n, 0, none⟩)) rfl (ex_box (v := (.agg #[(.int .i64 t.start), (.slice x0 t.reads.length y0), (.slice x1 t.writes.length y1)])) rfl) (fun n2 w3 S4 => ?_)
 simp only [pS, pN, pA, pC, pZ]
 have S4 : St w F w3 F [⟨n2, [(.int .i64 t.start), (.slice x0 t.reads.length y0), (.slice x1 t.writes.length y1)], 75⟩] [] := S4
 refine do_ rfl (.int .i64 0) (ex_assign _) ?_
 simp only [pS, pN, pA, pC, pZ]
 refine wl_nil (hK1 _ _ ?_)
 refine wp_seq_k (fun K5 hK5 => ?_)
 refine wp_seq_k (fun K6 hK6 => region_wl ?_)
 refine do_ rfl (.slice a l.length c) (ex_move _) ?_
 simp only [pS, pN, pA, pC, pZ]
 refine stTells (v := (.int .i64 (forestE l))) S4 rfl (ex_fn (vs := #[(.slice a l.length c)]) (map1 rfl) rfl (ent_37 _ _)) (forestCheck_spec _ _ _ l (S4).sat hl) (fun w7 S8 => ?_)
 simp only [pS, pN, pA, pC, pZ]
 refine do_ rfl (.int .i64 (forestE l)) (ex_assign _) ?_
 simp only [pS, pN, pA, pC, pZ]
 refine wl_nil (hK6 _ _ ?_)
 refine wp_seq_k (fun K9 hK9 => region_wl ?_)
 refine do_ rfl (.int .i64 (forestE l)) (ex_move _) ?_
 simp only [pS, pN, pA, pC, pZ]
 by_cases hc9 : (forestE l) = (0 : Int)
 ·refine do_ rfl (.bool false) (ex_neq (m := (forestE l)) (n := (0 : Int)) (b := false) rfl rfl (bne_eq_false_iff_eq.2 (by omega))) ?_
  simp only [pS, pN, pA, pC, pZ]
  refine wl_nil (hK9 _ _ ?_)
  refine wp_cond_false rfl ?_
  refine wp_skip ?_
  refine hK5 _ _ ?_
  refine wp_seq_k (fun K10 hK10 => region_wl ?_)
  refine do_ rfl (.agg #[(.int .i64 t.start), (.slice x0 t.reads.length y0), (.slice x1 t.writes.length y1)]) (ex_load rfl (loadN (cs := [(.int .i64 t.start), (.slice x0 t.reads.length y0), (.slice x1 t.writes.length y1)]) Try.underlying75 rfl (size_75) (St.range S8 (i := 0) rfl 0 [(.int .i64 t.start), (.slice x0 t.reads.length y0), (.slice x1 t.writes.length y1)] (sub_range 0 rfl)))) ?_
  simp only [pS, pN, pA, pC, pZ]
  refine stTells (v := (.int .i64 (txE t))) S8 rfl (ex_fn (vs := #[(.agg #[(.int .i64 t.start), (.slice x0 t.reads.length y0), (.slice x1 t.writes.length y1)])]) (map1 rfl) rfl (ent_51 _ _)) (txnCheck_spec _ _ _ t (S8).sat ⟨_, _, _, _, rfl, h0, h1⟩ hbw) (fun w11 S12 => ?_)
  simp only [pS, pN, pA, pC, pZ]
  refine do_ rfl (.int .i64 (txE t)) (ex_assign _) ?_
  simp only [pS, pN, pA, pC, pZ]
  refine wl_nil (hK10 _ _ ?_)
  refine wp_ret ?_
  (try simp only [Exit.then, Exit.inBlock, ↓reduceIte, Nat.reduceEqDiff])
  refine bodyPost_ret (v := (.int .i64 (txE t))) ?_ rfl ?_
  ·exact res_t rfl rfl
  ·exact ⟨by unfold bothE; rw [if_neg (by omega)], S12.gr.below⟩
 ·refine do_ rfl (.bool true) (ex_neq (m := (forestE l)) (n := (0 : Int)) (b := true) rfl rfl (bne_iff_ne.2 (by omega))) ?_
  simp only [pS, pN, pA, pC, pZ]
  refine wl_nil (hK9 _ _ ?_)
  refine wp_cond_true rfl ?_
  refine wp_seq_k (fun K13 hK13 => region_wl ?_)
  refine do_ rfl (.int .i64 (forestE l)) (ex_move _) ?_
  simp only [pS, pN, pA, pC, pZ]
  refine do_ rfl (.int .i64 (forestE l)) (ex_assign _) ?_
  simp only [pS, pN, pA, pC, pZ]
  refine wl_nil (hK13 _ _ ?_)
  refine wp_ret ?_
  (try simp only [Exit.then, Exit.inBlock, ↓reduceIte, Nat.reduceEqDiff])
  refine bodyPost_ret (v := (.int .i64 (forestE l))) ?_ rfl ?_
  ·exact res_t rfl rfl
  ·exact ⟨by unfold bothE; rw [if_pos hc9], S8.gr.below⟩
theorem any_next {α : Type} {l : List α} {g : α → Bool} {k : Nat} {p : α} (hp : l[k]? = some p) (h : (l.take k).any g = false) (hg : g p = false) : (l.take (k + 1)).any g = false := by
  obtain ⟨hk, rfl⟩ := List.getElem?_eq_some_iff.1 hp
  rw [List.take_succ_eq_append_getElem hk, List.any_append, h]
  simp [hg]
theorem any_all {α : Type} {l : List α} {g : α → Bool} {k : Nat} (hk : l.length ≤ k) (h : (l.take k).any g = false) : l.any g = false := by rwa [List.take_of_length_le hk] at h
theorem any_hit {α : Type} {l : List α} {g : α → Bool} {k : Nat} {p : α} (hp : l[k]? = some p) (hg : g p = true) : l.any g = true := List.any_eq_true.2 ⟨p, List.mem_of_getElem? hp, hg⟩
theorem cm_no {t : Tx} {p : Cm} (h : (p.turn : Int) ≤ t.start) : (fun c : Cm => decide (t.start < c.turn) && c.writes.any (fun w : Wr => t.reads.any fun r => touchesX r w)) p = false := by (try simp only); rw [decide_eq_false (by omega)]; rfl
def clashE (t : Tx) (cs : List Cm) : Bool := if txE t ≠ 0 then false else clashX t.start t.reads cs
set_option maxHeartbeats 8000000 in
theorem clash_spec (F : Fz) (w : World) (v u : Value) (t : Tx) (cs : List Cm) (hs : Sat w F) (hv : TxV F v t) (hl : Cms F u cs) (hcs : ∀ c ∈ cs, c.writes.length ≤ 100000) (hbw : ∀ r ∈ t.writes, r.name.length ≤ 100000 ∧ r.key.length ≤ 100000 ∧ r.value.length ≤ 100000) :
    Calls Try.prog 47 #[v, u] w (Tells w (.tuple #[.bool (clashE t cs), .int .i64 (txE t)])) := by
 obtain ⟨a, c, rfl, hc1, hc2⟩ := Sl.shape hl
 unfold maxLen at hc2
 obtain ⟨x0, y0, x1, y1, rfl, h0, h1⟩ := hv
 obtain ⟨_, _, e0, q0, q1⟩ := Sl.shape h0
 obtain ⟨_, _, e1, q2, q3⟩ := Sl.shape h1
 injection e0 with _ _ e0
 injection e1 with _ _ e1
 subst e0 e1
 unfold maxLen at q1 q3
 have S := St.start hs
 go_enter Try.func47, Try.ntmps47
 refine wp_seq_k (fun K1 hK1 => region_wl ?_)
 refine stNew S (v := fun n => .pointer (some ⟨n, 0, none⟩)) rfl (ex_box (v := (.agg #[(.int .i64 t.start), (.slice x0 t.reads.length y0), (.slice x1 t.writes.length y1)])) rfl) (fun n2 w3 S4 => ?_)
 simp only [pS, pN, pA, pC, pZ]
 have S4 : St w F w3 F [⟨n2, [(.int .i64 t.start), (.slice x0 t.reads.length y0), (.slice x1 t.writes.length y1)], 75⟩] [] := S4
 refine do_ rfl (.bool false) (ex_assign _) ?_
 simp only [pS, pN, pA, pC, pZ]
 refine do_ rfl (.int .i64 0) (ex_assign _) ?_
 simp only [pS, pN, pA, pC, pZ]
 refine wl_nil (hK1 _ _ ?_)
 refine wp_seq_k (fun K5 hK5 => ?_)
 refine wp_seq_k (fun K6 hK6 => region_wl ?_)
 refine do_ rfl (.agg #[(.int .i64 t.start), (.slice x0 t.reads.length y0), (.slice x1 t.writes.length y1)]) (ex_load rfl (loadN (cs := [(.int .i64 t.start), (.slice x0 t.reads.length y0), (.slice x1 t.writes.length y1)]) Try.underlying75 rfl (size_75) (St.range S4 (i := 0) rfl 0 [(.int .i64 t.start), (.slice x0 t.reads.length y0), (.slice x1 t.writes.length y1)] (sub_range 0 rfl)))) ?_
 simp only [pS, pN, pA, pC, pZ]
 refine stTells (v := (.int .i64 (txE t))) S4 rfl (ex_fn (vs := #[(.agg #[(.int .i64 t.start), (.slice x0 t.reads.length y0), (.slice x1 t.writes.length y1)])]) (map1 rfl) rfl (ent_51 _ _)) (txnCheck_spec _ _ _ t (S4).sat ⟨_, _, _, _, rfl, h0, h1⟩ hbw) (fun w7 S8 => ?_)
 simp only [pS, pN, pA, pC, pZ]
 refine do_ rfl (.int .i64 (txE t)) (ex_assign _) ?_
 simp only [pS, pN, pA, pC, pZ]
 refine wl_nil (hK6 _ _ ?_)
 refine wp_seq_k (fun K9 hK9 => region_wl ?_)
 refine do_ rfl (.int .i64 (txE t)) (ex_move _) ?_
 simp only [pS, pN, pA, pC, pZ]
 by_cases hc14 : (txE t) = (0 : Int)
 ·refine do_ rfl (.bool false) (ex_neq (m := (txE t)) (n := (0 : Int)) (b := false) rfl rfl (bne_eq_false_iff_eq.2 (by omega))) ?_
  simp only [pS, pN, pA, pC, pZ]
  refine wl_nil (hK9 _ _ ?_)
  refine wp_cond_false rfl ?_
  refine wp_skip ?_
  refine hK5 _ _ ?_
  refine wp_seq_k (fun K10 hK10 => ?_)
  refine wp_seq_k (fun K11 hK11 => ?_)
  have ht : TxOk t := txE_ok.1 (by omega)
  have hnr := ht.nr
  refine region_wl ?_
  refine do_ rfl (.slice a cs.length c) (ex_move _) ?_
  simp only [pS, pN, pA, pC, pZ]
  refine do_ rfl (.int .i64 ((cs.length : Nat) : Int)) (ex_len Try.underlying60 rfl) ?_
  simp only [pS, pN, pA, pC, pZ]
  refine do_ rfl (.int .i64 0) (ex_move _) ?_
  simp only [pS, pN, pA, pC, pZ]
  refine wl_nil (hK11 _ _ ?_)
  refine wp_block ?_
  refine wp_loop_g (fun mm aa w14 => ∃ (k : Nat) (F12 : Fz) (u13 : Nat → Value), mm = cs.length - k ∧ u13 = slots aa ∧ aa = ⟨#[(.agg #[(.int .i64 t.start), (.slice x0 t.reads.length y0), (.slice x1 t.writes.length y1)]), (.slice a cs.length c), (.pointer (some ⟨n2, 0, none⟩)), undef, (u13 4), (u13 5), (.int .i64 (txE t)), undef, (u13 8), undef, (u13 10), (.agg #[(.int .i64 t.start), (.slice x0 t.reads.length y0), (.slice x1 t.writes.length y1)]), (.int .i64 (txE t)), (.int .i64 (txE t)), (.bool false), undef, (.slice a cs.length c), (.int .i64 ((cs.length : Nat) : Int)), (.int .i64 ((k : Nat) : Int)), (u13 19), (u13 20), (u13 21), (u13 22), (u13 23), (u13 24), (u13 25), (u13 26), (u13 27), (u13 28), (u13 29), (u13 30), (u13 31), (u13 32), (u13 33), (u13 34), (u13 35), (u13 36), (u13 37), (u13 38), (u13 39)], []⟩ ∧ St w F w14 F12 [⟨n2, [(.int .i64 t.start), (.slice x0 t.reads.length y0), (.slice x1 t.writes.length y1)], 75⟩] [] ∧ Le F F12 ∧ (k ≤ cs.length) ∧ ((cs.take k).any (fun c : Cm => decide (t.start < c.turn) && c.writes.any (fun w : Wr => t.reads.any fun r => touchesX r w)) = false)) _ ⟨0, F, _, rfl, rfl, rfl, S8, Le.refl _, (by omega), rfl⟩ ?_
  rintro m15 a16 w17 ⟨k, F12, u13, rfl, -, rfl, S18, le19, hk, hno⟩ K20 hK20
  refine wp_seq_k (fun K21 hK21 => region_wl ?_)
  by_cases hc19 : k < cs.length
  ·refine do_ rfl (.bool true) (ex_lss (m := ((k : Nat) : Int)) (n := ((cs.length : Nat) : Int)) (b := true) rfl rfl (decide_eq_true (by omega))) ?_
   simp only [pS, pN, pA, pC, pZ]
   refine wl_nil (hK21 _ _ ?_)
   refine wp_seq_k (fun K22 hK22 => ?_)
   refine wp_cond_true rfl ?_
   refine wp_skip ?_
   refine hK22 _ _ ?_
   refine wp_seq_k (fun K23 hK23 => ?_)
   refine wp_block ?_
   refine wp_seq_k (fun K24 hK24 => ?_)
   obtain ⟨p, hp⟩ : ∃ p, cs[k]? = some p := ⟨cs[k], List.getElem?_eq_getElem hc19⟩
   obtain ⟨b25, o26, ha27, xa30, xc31, c28, c29, r32⟩ := Cms.get (hl.mono le19) hp
   refine region_wl ?_
   refine do_ rfl (.pointer (some ⟨b25, o26 + k * 2, none⟩)) (ex_at (i := k) (sz := 2) Try.underlying60 (sizeof_50 _) rfl ha27 rfl (by omega) rfl) ?_
   simp only [pS, pN, pA, pC, pZ]
   refine do_ rfl (.agg #[(.int .i64 ((p.turn : Nat) : Int)), (.slice xa30 p.writes.length xc31)]) (ex_load rfl (loadN (cs := [(.int .i64 ((p.turn : Nat) : Int)), (.slice xa30 p.writes.length xc31)]) Try.underlying50 rfl (size_50) (range2 (St.fz S18 c28) (St.fz S18 c29)))) ?_
   simp only [pS, pN, pA, pC, pZ]
   refine stNew S18 (v := fun n => .pointer (some ⟨n, 0, none⟩)) rfl (ex_alloc (zero_50 _)) (fun n33 w34 S35 => ?_)
   simp only [pS, pN, pA, pC, pZ]
   have S35 : St w F w34 F12 [⟨n33, [(.int .i64 0), (.slice none 0 0)], 50⟩, ⟨n2, [(.int .i64 t.start), (.slice x0 t.reads.length y0), (.slice x1 t.writes.length y1)], 75⟩] [] := S35
   refine stStore (i := 0) (v := (.agg #[(.int .i64 ((p.turn : Nat) : Int)), (.slice xa30 p.writes.length xc31)])) S35 rfl rfl rfl rfl (size_50) (allc2 rfl rfl) (Nat.le_of_ble_eq_true rfl) (fun w36 S37 => ?_)
   simp only [pS, pN, pA, pC, pZ]
   have S37 : St w F w36 F12 [⟨n33, [(.int .i64 ((p.turn : Nat) : Int)), (.slice xa30 p.writes.length xc31)], 50⟩, ⟨n2, [(.int .i64 t.start), (.slice x0 t.reads.length y0), (.slice x1 t.writes.length y1)], 75⟩] [] := S37
   refine wl_nil (hK24 _ _ ?_)
   refine wp_seq_k (fun K38 hK38 => ?_)
   refine wp_seq_k (fun K39 hK39 => region_wl ?_)
   refine do_ rfl (.pointer (some ⟨n33, 0, none⟩)) (ex_field (q := ⟨n33, 0, none⟩) rfl (fa_50_0 _ _)) ?_
   simp only [pS, pN, pA, pC, pZ]
   refine do_ rfl (.int .i64 ((p.turn : Nat) : Int)) (ex_load rfl (load1 (nagg_3 _) (St.cell S37 (i := 0) rfl rfl))) ?_
   simp only [pS, pN, pA, pC, pZ]
   refine do_ rfl (.pointer (some ⟨n2, 0, none⟩)) (ex_field (q := ⟨n2, 0, none⟩) rfl (fa_75_0 _ _)) ?_
   simp only [pS, pN, pA, pC, pZ]
   refine do_ rfl (.int .i64 t.start) (ex_load rfl (load1 (nagg_3 _) (St.cell S37 (i := 1) rfl rfl))) ?_
   simp only [pS, pN, pA, pC, pZ]
   by_cases hc26 : ((p.turn : Nat) : Int) ≤ t.start
   ·refine do_ rfl (.bool true) (ex_leq (m := ((p.turn : Nat) : Int)) (n := t.start) (b := true) rfl rfl (decide_eq_true (by omega))) ?_
    simp only [pS, pN, pA, pC, pZ]
    refine wl_nil (hK39 _ _ ?_)
    refine wp_cond_true rfl ?_
    refine wp_exit ?_
    refine hK23 _ _ ?_
    refine region_wl ?_
    refine do_ rfl (.int .i64 (((k + 1) : Nat) : Int)) (ex_add (m := ((k : Nat) : Int)) (n := (1 : Int)) (r := (((k + 1) : Nat) : Int)) rfl rfl (by omega) (by omega) (by omega)) ?_
    simp only [pS, pN, pA, pC, pZ]
    refine do_ rfl (.int .i64 (((k + 1) : Nat) : Int)) (ex_move _) ?_
    simp only [pS, pN, pA, pC, pZ]
    refine wl_nil ?_
    have S37 := St.drop S37 (L' := [⟨n2, [(.int .i64 t.start), (.slice x0 t.reads.length y0), (.slice x1 t.writes.length y1)], 75⟩]) (.cons _ (List.Sublist.refl _))
    exact hK20 _ _ _ (by omega) ⟨(k + 1), F12, _, rfl, rfl, rfl, S37, le19, (by omega), (any_next hp hno (cm_no (by omega)))⟩
   ·refine do_ rfl (.bool false) (ex_leq (m := ((p.turn : Nat) : Int)) (n := t.start) (b := false) rfl rfl (decide_eq_false (by omega))) ?_
    simp only [pS, pN, pA, pC, pZ]
    refine wl_nil (hK39 _ _ ?_)
    refine wp_cond_false rfl ?_
    refine wp_skip ?_
    refine hK38 _ _ ?_
    refine wp_seq_k (fun K40 hK40 => ?_)
    have hpw := hcs p (List.mem_of_getElem? hp)
    refine region_wl ?_
    refine do_ rfl (.pointer (some ⟨n33, 1, none⟩)) (ex_field (q := ⟨n33, 1, none⟩) rfl (fa_50_1 _ _)) ?_
    simp only [pS, pN, pA, pC, pZ]
    refine do_ rfl (.slice xa30 p.writes.length xc31) (ex_load rfl (load1 (nagg_44 _) (St.cell S37 (i := 0) rfl rfl))) ?_
    simp only [pS, pN, pA, pC, pZ]
    refine do_ rfl (.int .i64 ((p.writes.length : Nat) : Int)) (ex_len Try.underlying44 rfl) ?_
    simp only [pS, pN, pA, pC, pZ]
    refine do_ rfl (.int .i64 0) (ex_move _) ?_
    simp only [pS, pN, pA, pC, pZ]
    refine wl_nil (hK40 _ _ ?_)
    refine wp_block ?_
    refine wp_loop_g (fun mm aa w43 => ∃ (j : Nat) (F41 : Fz) (u42 : Nat → Value), mm = p.writes.length - j ∧ u42 = slots aa ∧ aa = ⟨#[(.agg #[(.int .i64 t.start), (.slice x0 t.reads.length y0), (.slice x1 t.writes.length y1)]), (.slice a cs.length c), (.pointer (some ⟨n2, 0, none⟩)), undef, (u42 4), (u42 5), (.int .i64 (txE t)), undef, (.pointer (some ⟨n33, 0, none⟩)), undef, (u42 10), (.agg #[(.int .i64 t.start), (.slice x0 t.reads.length y0), (.slice x1 t.writes.length y1)]), (.int .i64 (txE t)), (.int .i64 (txE t)), (.bool false), undef, (.slice a cs.length c), (.int .i64 ((cs.length : Nat) : Int)), (.int .i64 ((k : Nat) : Int)), (.bool true), (.pointer (some ⟨b25, o26 + k * 2, none⟩)), (.agg #[(.int .i64 ((p.turn : Nat) : Int)), (.slice xa30 p.writes.length xc31)]), (.pointer (some ⟨n33, 0, none⟩)), (.int .i64 ((p.turn : Nat) : Int)), (.pointer (some ⟨n2, 0, none⟩)), (.int .i64 t.start), (.bool false), (.pointer (some ⟨n33, 1, none⟩)), (.slice xa30 p.writes.length xc31), (.int .i64 ((p.writes.length : Nat) : Int)), (.int .i64 ((j : Nat) : Int)), (u42 31), (u42 32), (u42 33), (u42 34), (u42 35), (u42 36), (u42 37), (u42 38), (u13 39)], []⟩ ∧ St w F w43 F41 [⟨n33, [(.int .i64 ((p.turn : Nat) : Int)), (.slice xa30 p.writes.length xc31)], 50⟩, ⟨n2, [(.int .i64 t.start), (.slice x0 t.reads.length y0), (.slice x1 t.writes.length y1)], 75⟩] [] ∧ Le F12 F41 ∧ (j ≤ p.writes.length) ∧ ((p.writes.take j).any (fun w : Wr => t.reads.any fun r => touchesX r w) = false)) _ ⟨0, F12, _, rfl, rfl, rfl, S37, Le.refl _, (by omega), rfl⟩ ?_
    rintro m44 a45 w46 ⟨j, F41, u42, rfl, -, rfl, S47, le48, hj, hnw⟩ K49 hK49
    refine wp_seq_k (fun K50 hK50 => region_wl ?_)
    by_cases hc31 : j < p.writes.length
    ·refine do_ rfl (.bool true) (ex_lss (m := ((j : Nat) : Int)) (n := ((p.writes.length : Nat) : Int)) (b := true) rfl rfl (decide_eq_true (by omega))) ?_
     simp only [pS, pN, pA, pC, pZ]
     refine wl_nil (hK50 _ _ ?_)
     refine wp_seq_k (fun K51 hK51 => ?_)
     refine wp_cond_true rfl ?_
     refine wp_skip ?_
     refine hK51 _ _ ?_
     refine wp_seq_k (fun K52 hK52 => ?_)
     refine wp_block ?_
     refine wp_seq_k (fun K53 hK53 => ?_)
     obtain ⟨qq, hq⟩ : ∃ qq, p.writes[j]? = some qq := ⟨p.writes[j], List.getElem?_eq_getElem hc31⟩
     obtain ⟨b54, o55, ha56, xa58, xc59, xa62, xc63, xa67, xc68, c57, c61, c65, c66, r60, r64, r69⟩ := Wrs.get (r32.mono le48) hq
     refine region_wl ?_
     refine do_ rfl (.pointer (some ⟨b54, o55 + j * 4, none⟩)) (ex_at (i := j) (sz := 4) Try.underlying44 (sizeof_27 _) rfl ha56 rfl (by omega) rfl) ?_
     simp only [pS, pN, pA, pC, pZ]
     refine do_ rfl (.agg #[(.slice xa58 qq.name.length xc59), (.slice xa62 qq.key.length xc63), (.bool qq.gone), (.slice xa67 qq.value.length xc68)]) (ex_load rfl (loadN (cs := [(.slice xa58 qq.name.length xc59), (.slice xa62 qq.key.length xc63), (.bool qq.gone), (.slice xa67 qq.value.length xc68)]) Try.underlying27 rfl (size_27) (range4 (St.fz S47 c57) (St.fz S47 c61) (St.fz S47 c65) (St.fz S47 c66)))) ?_
     simp only [pS, pN, pA, pC, pZ]
     refine stNew S47 (v := fun n => .pointer (some ⟨n, 0, none⟩)) rfl (ex_alloc (zero_27 _)) (fun n70 w71 S72 => ?_)
     simp only [pS, pN, pA, pC, pZ]
     have S72 : St w F w71 F41 [⟨n70, [(.slice none 0 0), (.slice none 0 0), (.bool false), (.slice none 0 0)], 27⟩, ⟨n33, [(.int .i64 ((p.turn : Nat) : Int)), (.slice xa30 p.writes.length xc31)], 50⟩, ⟨n2, [(.int .i64 t.start), (.slice x0 t.reads.length y0), (.slice x1 t.writes.length y1)], 75⟩] [] := S72
     refine stStore (i := 0) (v := (.agg #[(.slice xa58 qq.name.length xc59), (.slice xa62 qq.key.length xc63), (.bool qq.gone), (.slice xa67 qq.value.length xc68)])) S72 rfl rfl rfl rfl (size_27) (allc4 rfl rfl rfl rfl) (Nat.le_of_ble_eq_true rfl) (fun w73 S74 => ?_)
     simp only [pS, pN, pA, pC, pZ]
     have S74 : St w F w73 F41 [⟨n70, [(.slice xa58 qq.name.length xc59), (.slice xa62 qq.key.length xc63), (.bool qq.gone), (.slice xa67 qq.value.length xc68)], 27⟩, ⟨n33, [(.int .i64 ((p.turn : Nat) : Int)), (.slice xa30 p.writes.length xc31)], 50⟩, ⟨n2, [(.int .i64 t.start), (.slice x0 t.reads.length y0), (.slice x1 t.writes.length y1)], 75⟩] [] := S74
     refine wl_nil (hK53 _ _ ?_)
     refine wp_seq_k (fun K75 hK75 => ?_)
     obtain ⟨S76, le77, hc78⟩ := St.freezeBlk S74 (i := 0) rfl
     have r80 : WrP _ n70 qq := ⟨_, _, _, _, _, _, hc78 0 _ rfl, hc78 1 _ rfl, hc78 2 _ rfl, hc78 3 _ rfl, (r60.mono le77), (r64.mono le77), (r69.mono le77)⟩
     generalize addF F41 w73 n70 = F79 at *
     have S76 : St w F w73 F79 [⟨n33, [(.int .i64 ((p.turn : Nat) : Int)), (.slice xa30 p.writes.length xc31)], 50⟩, ⟨n2, [(.int .i64 t.start), (.slice x0 t.reads.length y0), (.slice x1 t.writes.length y1)], 75⟩] [] := S76
     refine region_wl ?_
     refine do_ rfl (.pointer (some ⟨n2, 1, none⟩)) (ex_field (q := ⟨n2, 1, none⟩) rfl (fa_75_1 _ _)) ?_
     simp only [pS, pN, pA, pC, pZ]
     refine do_ rfl (.slice x0 t.reads.length y0) (ex_load rfl (load1 (nagg_73 _) (St.cell S76 (i := 1) rfl rfl))) ?_
     simp only [pS, pN, pA, pC, pZ]
     refine do_ rfl (.func (.func 84) #[] #[(.pointer (some ⟨n70, 0, none⟩))]) (ex_makeFunc rfl) ?_
     simp only [pS, pN, pA, pC, pZ]
     refine stTells (v := (.bool (t.reads.any (fun q => touchesX q qq)))) S76 rfl (ex_fn (vs := #[(.slice x0 t.reads.length y0), (.func (.func 84) #[] #[(.pointer (some ⟨n70, 0, none⟩))])]) (map2 rfl rfl) rfl (ent_80 _ _)) (clash1_contains _ _ _ n70 t.reads qq (S76).sat (h0.mono ((le19.trans le48).trans le77)) r80 (by omega)) (fun w81 S82 => ?_)
     simp only [pS, pN, pA, pC, pZ]
     refine wl_nil (hK75 _ _ ?_)
     refine wp_cond_split rfl (fun hc83 => ?_) (fun hc83 => ?_)
     ·refine wp_seq_k (fun K84 hK84 => region_wl ?_)
      refine do_ rfl (.bool true) (ex_assign _) ?_
      simp only [pS, pN, pA, pC, pZ]
      refine do_ rfl (.int .i64 0) (ex_assign _) ?_
      simp only [pS, pN, pA, pC, pZ]
      refine wl_nil (hK84 _ _ ?_)
      refine wp_ret ?_
      (try simp only [Exit.then, Exit.inBlock, ↓reduceIte, Nat.reduceEqDiff])
      refine bodyPost_ret (v := (.tuple #[(.bool true), (.int .i64 0)])) ?_ rfl ?_
      ·exact res_tt rfl rfl rfl
      ·exact ⟨by unfold clashE clashX; rw [if_neg (by omega), any_hit hp (by (try simp only); rw [decide_eq_true (by omega), any_hit hq hc83]; rfl), txE_ok.2 ht], S82.gr.below⟩
     ·refine wp_skip ?_
      refine hK52 _ _ ?_
      refine region_wl ?_
      refine do_ rfl (.int .i64 (((j + 1) : Nat) : Int)) (ex_add (m := ((j : Nat) : Int)) (n := (1 : Int)) (r := (((j + 1) : Nat) : Int)) rfl rfl (by omega) (by omega) (by omega)) ?_
      simp only [pS, pN, pA, pC, pZ]
      refine do_ rfl (.int .i64 (((j + 1) : Nat) : Int)) (ex_move _) ?_
      simp only [pS, pN, pA, pC, pZ]
      refine wl_nil ?_
      exact hK49 _ _ _ (by omega) ⟨(j + 1), F79, _, rfl, rfl, rfl, S82, (le48.trans le77), (by omega), (any_next hq hnw (by simpa using hc83))⟩
    ·refine do_ rfl (.bool false) (ex_lss (m := ((j : Nat) : Int)) (n := ((p.writes.length : Nat) : Int)) (b := false) rfl rfl (decide_eq_false (by omega))) ?_
     simp only [pS, pN, pA, pC, pZ]
     refine wl_nil (hK50 _ _ ?_)
     refine wp_seq_k (fun K85 hK85 => ?_)
     refine wp_cond_false rfl ?_
     refine wp_exit ?_
     refine hK23 _ _ ?_
     refine region_wl ?_
     refine do_ rfl (.int .i64 (((k + 1) : Nat) : Int)) (ex_add (m := ((k : Nat) : Int)) (n := (1 : Int)) (r := (((k + 1) : Nat) : Int)) rfl rfl (by omega) (by omega) (by omega)) ?_
     simp only [pS, pN, pA, pC, pZ]
     refine do_ rfl (.int .i64 (((k + 1) : Nat) : Int)) (ex_move _) ?_
     simp only [pS, pN, pA, pC, pZ]
     refine wl_nil ?_
     have S47 := St.drop S47 (L' := [⟨n2, [(.int .i64 t.start), (.slice x0 t.reads.length y0), (.slice x1 t.writes.length y1)], 75⟩]) (.cons _ (List.Sublist.refl _))
     exact hK20 _ _ _ (by omega) ⟨(k + 1), F41, _, rfl, rfl, rfl, S47, (le19.trans le48), (by omega), (any_next hp hno (by (try simp only); rw [any_all (by omega) hnw, Bool.and_false]))⟩
  ·refine do_ rfl (.bool false) (ex_lss (m := ((k : Nat) : Int)) (n := ((cs.length : Nat) : Int)) (b := false) rfl rfl (decide_eq_false (by omega))) ?_
   simp only [pS, pN, pA, pC, pZ]
   refine wl_nil (hK21 _ _ ?_)
   refine wp_seq_k (fun K86 hK86 => ?_)
   refine wp_cond_false rfl ?_
   refine wp_exit ?_
   refine hK10 _ _ ?_
   refine wp_seq_k (fun K87 hK87 => region_wl ?_)
   refine do_ rfl (.bool false) (ex_assign _) ?_
   simp only [pS, pN, pA, pC, pZ]
   refine do_ rfl (.int .i64 0) (ex_assign _) ?_
   simp only [pS, pN, pA, pC, pZ]
   refine wl_nil (hK87 _ _ ?_)
   refine wp_ret ?_
   (try simp only [Exit.then, Exit.inBlock, ↓reduceIte, Nat.reduceEqDiff])
   refine bodyPost_ret (v := (.tuple #[(.bool false), (.int .i64 0)])) ?_ rfl ?_
   ·exact res_tt rfl rfl rfl
   ·exact ⟨by unfold clashE clashX; rw [if_neg (by omega), any_all (by omega) hno, txE_ok.2 ht], S18.gr.below⟩
 ·refine do_ rfl (.bool true) (ex_neq (m := (txE t)) (n := (0 : Int)) (b := true) rfl rfl (bne_iff_ne.2 (by omega))) ?_
  simp only [pS, pN, pA, pC, pZ]
  refine wl_nil (hK9 _ _ ?_)
  refine wp_cond_true rfl ?_
  refine wp_seq_k (fun K88 hK88 => region_wl ?_)
  refine do_ rfl (.int .i64 (txE t)) (ex_move _) ?_
  simp only [pS, pN, pA, pC, pZ]
  refine do_ rfl (.bool false) (ex_assign _) ?_
  simp only [pS, pN, pA, pC, pZ]
  refine do_ rfl (.int .i64 (txE t)) (ex_assign _) ?_
  simp only [pS, pN, pA, pC, pZ]
  refine wl_nil (hK88 _ _ ?_)
  refine wp_ret ?_
  (try simp only [Exit.then, Exit.inBlock, ↓reduceIte, Nat.reduceEqDiff])
  refine bodyPost_ret (v := (.tuple #[(.bool false), (.int .i64 (txE t))])) ?_ rfl ?_
  ·exact res_tt rfl rfl rfl
  ·exact ⟨by unfold clashE; rw [if_pos hc14], S8.gr.below⟩
end Go.Proofs.Ytcpngkkconalhaa
