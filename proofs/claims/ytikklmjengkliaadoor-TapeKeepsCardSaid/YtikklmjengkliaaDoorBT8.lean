/- Rules, plain laws and walks: TP1 TP2 TP3 -/
import Derived.Test.YtikklmjengkliaaDoorBT7
import Derived.Test.YtikklmjengkliaaDoorBT1
namespace Go.Proofs.YtikklmjengkliaaDoor
open Go.RowKit
set_option maxRecDepth 100000
set_option linter.unusedVariables false
set_option linter.unusedSimpArgs false
set_option maxHeartbeats 8000000 in
theorem tpart_spec {w0 w : World} {F0 F : Fz} {L0 : List Blk} {M0 : List RowP} {v u : Value} {l p : By}
    (S : St w0 F0 w F L0 (ownP 1 ByC ByC.mono 5 w0.heap.size v l :: M0)) (hu : Bs F u p) (hl : l.length ≤ 100000) (hp : p.length ≤ 1000) :
    Calls Tryd.prog 57 #[v, u] w fun e w' => ∃ v', e = .returned v' ∧ St w0 F0 w' F L0 (ownP 1 ByC ByC.mono 5 w0.heap.size v' (l ++ encPart p) :: M0) := by
 obtain ⟨a, c, rfl, hc1, hc2⟩ := (S.own (i := 0) rfl).shape
 obtain ⟨x, y, rfl, _⟩ := hu.shape
 unfold maxLen at hc2
 obtain ⟨i5, hi5, hz5, hs5, hb5⟩ := info_parts infoU8
 go_enter Tryd.func57, Tryd.ntmps57
 refine wp_seq_k (fun K1 hK1 => region_wl ?_)
 refine do_ rfl (.slice none 0 0) (ex_assign _) ?_
 simp only [pS, pN, pA, pC, pZ]
 refine wl_nil (hK1 _ _ ?_)
 refine wp_seq_k (fun K2 hK2 => region_wl ?_)
 refine do_ rfl (.slice a l.length c) (ex_move _) ?_
 simp only [pS, pN, pA, pC, pZ]
 refine do_ rfl (.slice x p.length y) (ex_move _) ?_
 simp only [pS, pN, pA, pC, pZ]
 refine do_ rfl (.int .i64 ((p.length : Nat) : Int)) (ex_len Tryd.underlying23 rfl) ?_
 simp only [pS, pN, pA, pC, pZ]
 refine do_ rfl (bv (b8 p.length)) (ex_convert (v := (.int .i64 ((p.length : Nat) : Int))) rfl (conv_b8 p.length _)) ?_
 simp only [pS, pN, pA, pC, pZ]
 refine stNew S (v := fun n => .slice (some ⟨n, 0, none⟩) 1 1) rfl (ex_lit (ps := #[(0, (bv (b8 p.length)))]) (cells := #[(bv (b8 p.length))]) (E := 5) (bmap1 rfl) (fun w => by kernel_rfl)) (fun n3 w4 S5 => ?_)
 simp only [pS, pN, pA, pC, pZ]
 have S5 : St w0 F0 w4 F (⟨n3, [(bv (b8 p.length))], 5⟩ :: L0) (ownP 1 ByC ByC.mono 5 w0.heap.size (.slice a l.length c) l :: M0) := S5
 refine stPush (i := 0) (r := 0) (p := (b8 p.length)) (cs := [(bv (b8 p.length))]) S5 rfl i5 (.int .u8 0) 1 Tryd.underlying23 hi5 hz5 hs5 hb5 rfl (by decide) rfl rfl rfl rfl rfl (bv_one (b8 p.length)) (rfl) (Nat.le_refl _) S5.gr.below.size (by unfold maxLen; omega) (by omega) ?_
 intro v6 w7 S8 hn9
 simp only [pS, pN, pA, pC, pZ]
 have S8 := St.drop S8 (L' := (L0)) (.cons _ (List.Sublist.refl _))
 have S8 : St w0 F0 w7 F (L0) (ownP 1 ByC ByC.mono 5 w0.heap.size v6 (l ++ [(b8 p.length)]) :: M0) := S8
 refine do_ rfl (.slice x p.length y) (ex_move _) ?_
 simp only [pS, pN, pA, pC, pZ]
 refine stAppendS (r := 0) (u := (.slice x p.length y)) S8 rfl i5 (.int .u8 0) 1 Tryd.underlying23 hi5 hz5 hs5 hb5 rfl (by decide) rfl rfl rfl (Sl.toW (Bs.sl hu) (S8).sat) ByC.one (Nat.le_refl _) S8.gr.below.size (by unfold maxLen; simp only [List.length_append, List.length_cons, List.length_nil]; omega) (by simp only [List.length_append, List.length_cons, List.length_nil]; omega) ?_
 intro v10 w11 S12 hn13
 simp only [pS, pN, pA, pC, pZ]
 have S12 : St w0 F0 w11 F (L0) (ownP 1 ByC ByC.mono 5 w0.heap.size v10 ((l ++ [(b8 p.length)]) ++ p) :: M0) := S12
 refine do_ rfl v10 (ex_assign _) ?_
 simp only [pS, pN, pA, pC, pZ]
 refine wl_nil (hK2 _ _ ?_)
 refine wp_ret ?_
 (try simp only [Exit.then, Exit.inBlock, ↓reduceIte, Nat.reduceEqDiff])
 refine bodyPost_ret (v := v10) ?_ rfl ?_
 ·exact res_t rfl rfl
 ·have he : (l ++ [b8 p.length]) ++ p = l ++ encPart p := by unfold encPart; simp
  rw [he] at S12
  exact ⟨_, rfl, S12⟩
def encHead (t n : Nat) : By := [b8 (t / 65536), b8 (t / 256), b8 t, b8 n]
theorem encCm_head (t : Nat) (ws : List Wr) : encCm t ws = encHead t ws.length ++ ws.flatMap encWr := rfl
theorem encPart_len (p : By) : (encPart p).length = 1 + p.length := by simp [encPart]; omega
theorem enc_len {ws : List Wr} (h : ∀ w ∈ ws, WrOk w) : (ws.flatMap encWr).length ≤ 59 * ws.length := by
  induction ws with
  | nil => simp
  | cons w ws ih =>
    have hw := h w (by simp)
    have h1 := hw.name.2; have h2 := hw.key2; have h3 := hw.value
    have := encWr_len hw.gone
    have := ih (fun x hx => h x (by simp [hx]))
    rw [List.flatMap_cons, List.length_append, List.length_cons]
    omega
theorem enc_gone {H : By} {ws : List Wr} {k : Nat} {p : Wr} (hp : ws[k]? = some p) (hg : p.gone = true) : (((H ++ (ws.take k).flatMap encWr) ++ encPart p.name) ++ encPart p.key) ++ [(255 : UInt8)] = H ++ (ws.take (k + 1)).flatMap encWr := by
  rw [take_snoc hp, List.flatMap_append]
  simp [encWr, hg]
theorem enc_val {H : By} {ws : List Wr} {k : Nat} {p : Wr} (hp : ws[k]? = some p) (hg : p.gone = false) : (((H ++ (ws.take k).flatMap encWr) ++ encPart p.name) ++ encPart p.key) ++ encPart p.value = H ++ (ws.take (k + 1)).flatMap encWr := by
  rw [take_snoc hp, List.flatMap_append]
  simp [encWr, hg]
def EncR (b : By) (e : Int) (F : Fz) (u : Value) : Prop := ∃ x, u = .tuple #[x, .int .i64 e] ∧ Bs F x b
set_option maxHeartbeats 8000000 in
theorem encode_spec (F : Fz) (w : World) (v : Value) (m : Cm) (hs : Sat w F) (hv : CmV F v m) (hm : CmOk m) :
    Calls Tryd.prog 30 #[v] w (Gives w F (EncR (encCm m.turn m.writes) 0)) := by
 obtain ⟨x1, y1, rfl, h1⟩ := hv
 obtain ⟨_, _, e1, q2, q3⟩ := Sl.shape h1
 injection e1 with _ _ e1
 subst e1
 unfold maxLen at q3
 have hms := hm.some
 obtain ⟨i5, hi5, hz5, hs5, hb5⟩ := info_parts infoU8
 have S := St.start hs
 go_enter Tryd.func30, Tryd.ntmps30
 refine wp_seq_k (fun K1 hK1 => region_wl ?_)
 refine stNew S (v := fun n => .pointer (some ⟨n, 0, none⟩)) rfl (ex_box (v := (.agg #[(.int .i64 ((m.turn : Nat) : Int)), (.slice x1 m.writes.length y1)])) rfl) (fun n2 w3 S4 => ?_)
 simp only [pS, pN, pA, pC, pZ]
 have S4 : St w F w3 F [⟨n2, [(.int .i64 ((m.turn : Nat) : Int)), (.slice x1 m.writes.length y1)], 72⟩] [] := S4
 refine do_ rfl (.slice none 0 0) (ex_assign _) ?_
 simp only [pS, pN, pA, pC, pZ]
 refine do_ rfl (.int .i64 0) (ex_assign _) ?_
 simp only [pS, pN, pA, pC, pZ]
 refine wl_nil (hK1 _ _ ?_)
 refine wp_seq_k (fun K5 hK5 => ?_)
 refine wp_seq_k (fun K6 hK6 => region_wl ?_)
 refine do_ rfl (.agg #[(.int .i64 ((m.turn : Nat) : Int)), (.slice x1 m.writes.length y1)]) (ex_load rfl (loadN (cs := [(.int .i64 ((m.turn : Nat) : Int)), (.slice x1 m.writes.length y1)]) Tryd.underlying72 rfl (size_72) (St.range S4 (i := 0) rfl 0 [(.int .i64 ((m.turn : Nat) : Int)), (.slice x1 m.writes.length y1)] (sub_range 0 rfl)))) ?_
 simp only [pS, pN, pA, pC, pZ]
 refine stTells (v := (.int .i64 0)) S4 rfl (ex_fn (vs := #[(.agg #[(.int .i64 ((m.turn : Nat) : Int)), (.slice x1 m.writes.length y1)])]) (map1 rfl) rfl (ent_56 _ _)) (tapeCheckOk_spec _ _ _ m (S4).sat ⟨_, _, rfl, h1⟩ hm) (fun w7 S8 => ?_)
 simp only [pS, pN, pA, pC, pZ]
 refine do_ rfl (.int .i64 0) (ex_assign _) ?_
 simp only [pS, pN, pA, pC, pZ]
 refine wl_nil (hK6 _ _ ?_)
 refine wp_seq_k (fun K9 hK9 => region_wl ?_)
 refine do_ rfl (.int .i64 0) (ex_move _) ?_
 simp only [pS, pN, pA, pC, pZ]
 refine do_ rfl (.bool false) (ex_neq (b := false) rfl rfl (by decide)) ?_
 simp only [pS, pN, pA, pC, pZ]
 refine wl_nil (hK9 _ _ ?_)
 refine wp_cond_false rfl ?_
 refine wp_skip ?_
 refine hK5 _ _ ?_
 refine wp_seq_k (fun K10 hK10 => region_wl ?_)
 refine do_ rfl (.pointer (some ⟨n2, 0, none⟩)) (ex_field (q := ⟨n2, 0, none⟩) rfl (fa_72_0 _ _)) ?_
 simp only [pS, pN, pA, pC, pZ]
 refine do_ rfl (.int .i64 ((m.turn : Nat) : Int)) (ex_load rfl (load1 (nagg_3 _) (St.cell S8 (i := 0) rfl rfl))) ?_
 simp only [pS, pN, pA, pC, pZ]
 refine do_ rfl (.int .i64 (((m.turn / 65536) : Nat) : Int)) (ex_shrN (m := m.turn) (n := 16) rfl rfl (by decide)) ?_
 simp only [pS, pN, pA, pC, pZ]
 refine do_ rfl (bv (b8 (m.turn / 65536))) (ex_convert (v := (.int .i64 (((m.turn / 65536) : Nat) : Int))) rfl (conv_b8 (m.turn / 65536) _)) ?_
 simp only [pS, pN, pA, pC, pZ]
 refine do_ rfl (.pointer (some ⟨n2, 0, none⟩)) (ex_field (q := ⟨n2, 0, none⟩) rfl (fa_72_0 _ _)) ?_
 simp only [pS, pN, pA, pC, pZ]
 refine do_ rfl (.int .i64 ((m.turn : Nat) : Int)) (ex_load rfl (load1 (nagg_3 _) (St.cell S8 (i := 0) rfl rfl))) ?_
 simp only [pS, pN, pA, pC, pZ]
 refine do_ rfl (.int .i64 (((m.turn / 256) : Nat) : Int)) (ex_shrN (m := m.turn) (n := 8) rfl rfl (by decide)) ?_
 simp only [pS, pN, pA, pC, pZ]
 refine do_ rfl (bv (b8 (m.turn / 256))) (ex_convert (v := (.int .i64 (((m.turn / 256) : Nat) : Int))) rfl (conv_b8 (m.turn / 256) _)) ?_
 simp only [pS, pN, pA, pC, pZ]
 refine do_ rfl (.pointer (some ⟨n2, 0, none⟩)) (ex_field (q := ⟨n2, 0, none⟩) rfl (fa_72_0 _ _)) ?_
 simp only [pS, pN, pA, pC, pZ]
 refine do_ rfl (.int .i64 ((m.turn : Nat) : Int)) (ex_load rfl (load1 (nagg_3 _) (St.cell S8 (i := 0) rfl rfl))) ?_
 simp only [pS, pN, pA, pC, pZ]
 refine do_ rfl (bv (b8 m.turn)) (ex_convert (v := (.int .i64 ((m.turn : Nat) : Int))) rfl (conv_b8 m.turn _)) ?_
 simp only [pS, pN, pA, pC, pZ]
 refine do_ rfl (.pointer (some ⟨n2, 1, none⟩)) (ex_field (q := ⟨n2, 1, none⟩) rfl (fa_72_1 _ _)) ?_
 simp only [pS, pN, pA, pC, pZ]
 refine do_ rfl (.slice x1 m.writes.length y1) (ex_load rfl (load1 (nagg_37 _) (St.cell S8 (i := 0) rfl rfl))) ?_
 simp only [pS, pN, pA, pC, pZ]
 refine do_ rfl (.int .i64 ((m.writes.length : Nat) : Int)) (ex_len Tryd.underlying37 rfl) ?_
 simp only [pS, pN, pA, pC, pZ]
 refine do_ rfl (bv (b8 m.writes.length)) (ex_convert (v := (.int .i64 ((m.writes.length : Nat) : Int))) rfl (conv_b8 m.writes.length _)) ?_
 simp only [pS, pN, pA, pC, pZ]
 refine stNew S8 (v := fun n => .slice (some ⟨n, 0, none⟩) 4 4) rfl (ex_lit (ps := #[(0, (bv (b8 (m.turn / 65536)))), (1, (bv (b8 (m.turn / 256)))), (2, (bv (b8 m.turn))), (3, (bv (b8 m.writes.length)))]) (cells := #[(bv (b8 (m.turn / 65536))), (bv (b8 (m.turn / 256))), (bv (b8 m.turn)), (bv (b8 m.writes.length))]) (E := 5) (bmap4 rfl rfl rfl rfl) (fun w => by kernel_rfl)) (fun n11 w12 S13 => ?_)
 simp only [pS, pN, pA, pC, pZ]
 have S13 : St w F w12 F [⟨n11, [(bv (b8 (m.turn / 65536))), (bv (b8 (m.turn / 256))), (bv (b8 m.turn)), (bv (b8 m.writes.length))], 5⟩, ⟨n2, [(.int .i64 ((m.turn : Nat) : Int)), (.slice x1 m.writes.length y1)], 72⟩] [] := S13
 refine do_ rfl (.slice (some ⟨n11, 0, none⟩) 4 4) (ex_assign _) ?_
 simp only [pS, pN, pA, pC, pZ]
 refine wl_nil (hK10 _ _ ?_)
 refine wp_seq_k (fun K14 hK14 => ?_)
 refine wp_seq_k (fun K15 hK15 => region_wl ?_)
 refine do_ rfl (.pointer (some ⟨n2, 1, none⟩)) (ex_field (q := ⟨n2, 1, none⟩) rfl (fa_72_1 _ _)) ?_
 simp only [pS, pN, pA, pC, pZ]
 refine do_ rfl (.slice x1 m.writes.length y1) (ex_load rfl (load1 (nagg_37 _) (St.cell S13 (i := 1) rfl rfl))) ?_
 simp only [pS, pN, pA, pC, pZ]
 refine do_ rfl (.int .i64 ((m.writes.length : Nat) : Int)) (ex_len Tryd.underlying37 rfl) ?_
 simp only [pS, pN, pA, pC, pZ]
 refine do_ rfl (.int .i64 0) (ex_move _) ?_
 simp only [pS, pN, pA, pC, pZ]
 refine wl_nil (hK15 _ _ ?_)
 refine wp_block ?_
 have S16 : St w F w12 F [⟨n2, [(.int .i64 ((m.turn : Nat) : Int)), (.slice x1 m.writes.length y1)], 72⟩] [ownP 1 ByC ByC.mono 5 w.heap.size (.slice (some ⟨n11, 0, none⟩) 4 4) (encHead m.turn m.writes.length)] := St.blkRow (k := 1) (l := (encHead m.turn m.writes.length)) (el := [[(bv (b8 (m.turn / 65536)))], [(bv (b8 (m.turn / 256)))], [(bv (b8 m.turn))], [(bv (b8 m.writes.length))]]) (hR := ByC.mono) S13 rfl ⟨rfl, rfl, rfl, rfl, trivial⟩ (by simp) rfl (by simp [encHead]) (by unfold maxLen; decide) (S13.blk _ (List.mem_cons_self ..)).2.2
 refine wp_loop_g (fun mm aa w19 => ∃ (k : Nat) (v : Value) (F17 : Fz) (u18 : Nat → Value), mm = m.writes.length - k ∧ u18 = slots aa ∧ aa = ⟨#[(.agg #[(.int .i64 ((m.turn : Nat) : Int)), (.slice x1 m.writes.length y1)]), (.pointer (some ⟨n2, 0, none⟩)), (.slice none 0 0), (.int .i64 0), (.int .i64 0), v, undef, (u18 7), (.agg #[(.int .i64 ((m.turn : Nat) : Int)), (.slice x1 m.writes.length y1)]), (.int .i64 0), (.int .i64 0), (.bool false), undef, (.pointer (some ⟨n2, 0, none⟩)), (.int .i64 ((m.turn : Nat) : Int)), (.int .i64 (((m.turn / 65536) : Nat) : Int)), (bv (b8 (m.turn / 65536))), (.pointer (some ⟨n2, 0, none⟩)), (.int .i64 ((m.turn : Nat) : Int)), (.int .i64 (((m.turn / 256) : Nat) : Int)), (bv (b8 (m.turn / 256))), (.pointer (some ⟨n2, 0, none⟩)), (.int .i64 ((m.turn : Nat) : Int)), (bv (b8 m.turn)), (.pointer (some ⟨n2, 1, none⟩)), (.slice x1 m.writes.length y1), (.int .i64 ((m.writes.length : Nat) : Int)), (bv (b8 m.writes.length)), (.slice (some ⟨n11, 0, none⟩) 4 4), (.pointer (some ⟨n2, 1, none⟩)), (.slice x1 m.writes.length y1), (.int .i64 ((m.writes.length : Nat) : Int)), (.int .i64 ((k : Nat) : Int)), (u18 33), (u18 34), (u18 35), (u18 36), (u18 37), (u18 38), (u18 39), (u18 40), (u18 41), (u18 42), (u18 43), (u18 44), (u18 45), (u18 46), (u18 47), (u18 48), (u18 49), (u18 50), (u18 51), (u18 52), undef], []⟩ ∧ St w F w19 F17 [⟨n2, [(.int .i64 ((m.turn : Nat) : Int)), (.slice x1 m.writes.length y1)], 72⟩] [ownP 1 ByC ByC.mono 5 w.heap.size v ((encHead m.turn m.writes.length) ++ (m.writes.take k).flatMap encWr)] ∧ Le F F17 ∧ (k ≤ m.writes.length)) _ ⟨0, (.slice (some ⟨n11, 0, none⟩) 4 4), F, _, rfl, rfl, rfl, S16, Le.refl _, (by omega)⟩ ?_
 rintro m20 a21 w22 ⟨k, v, F17, u18, rfl, -, rfl, S23, le24, hk⟩ K25 hK25
 refine wp_seq_k (fun K26 hK26 => region_wl ?_)
 by_cases hc33 : k < m.writes.length
 ·refine do_ rfl (.bool true) (ex_lss (m := ((k : Nat) : Int)) (n := ((m.writes.length : Nat) : Int)) (b := true) rfl rfl (decide_eq_true (by omega))) ?_
  simp only [pS, pN, pA, pC, pZ]
  refine wl_nil (hK26 _ _ ?_)
  refine wp_seq_k (fun K27 hK27 => ?_)
  refine wp_cond_true rfl ?_
  refine wp_skip ?_
  refine hK27 _ _ ?_
  refine wp_seq_k (fun K28 hK28 => ?_)
  refine wp_block ?_
  refine wp_seq_k (fun K29 hK29 => ?_)
  obtain ⟨p, hp⟩ : ∃ p, m.writes[k]? = some p := ⟨m.writes[k], List.getElem?_eq_getElem hc33⟩
  have hpo := hm.ok p (List.mem_of_getElem? hp)
  have hp1 := hpo.name.2
  have hp2 := hpo.key2
  have hp3 := hpo.value
  have hfl := enc_len (ws := m.writes.take k) (fun x hx => hm.ok x (List.mem_of_mem_take hx))
  rw [List.length_take] at hfl
  obtain ⟨b30, o31, ha32, xa34, xc35, xa38, xc39, xa43, xc44, c33, c37, c41, c42, r36, r40, r45⟩ := Wrs.get (h1.mono le24) hp
  refine region_wl ?_
  refine do_ rfl (.pointer (some ⟨b30, o31 + k * 4, none⟩)) (ex_at (i := k) (sz := 4) Tryd.underlying37 (sizeof_36 _) rfl ha32 rfl (by omega) rfl) ?_
  simp only [pS, pN, pA, pC, pZ]
  refine do_ rfl (.agg #[(.slice xa34 p.name.length xc35), (.slice xa38 p.key.length xc39), (.bool p.gone), (.slice xa43 p.value.length xc44)]) (ex_load rfl (loadN (cs := [(.slice xa34 p.name.length xc35), (.slice xa38 p.key.length xc39), (.bool p.gone), (.slice xa43 p.value.length xc44)]) Tryd.underlying36 rfl (size_36) (range4 (St.fz S23 c33) (St.fz S23 c37) (St.fz S23 c41) (St.fz S23 c42)))) ?_
  simp only [pS, pN, pA, pC, pZ]
  refine stNew S23 (v := fun n => .pointer (some ⟨n, 0, none⟩)) rfl (ex_alloc (zero_36 _)) (fun n46 w47 S48 => ?_)
  simp only [pS, pN, pA, pC, pZ]
  have S48 : St w F w47 F17 [⟨n46, [(.slice none 0 0), (.slice none 0 0), (.bool false), (.slice none 0 0)], 36⟩, ⟨n2, [(.int .i64 ((m.turn : Nat) : Int)), (.slice x1 m.writes.length y1)], 72⟩] [ownP 1 ByC ByC.mono 5 w.heap.size v ((encHead m.turn m.writes.length) ++ (m.writes.take k).flatMap encWr)] := S48
  refine stStore (i := 0) (v := (.agg #[(.slice xa34 p.name.length xc35), (.slice xa38 p.key.length xc39), (.bool p.gone), (.slice xa43 p.value.length xc44)])) S48 rfl rfl rfl rfl (size_36) (allc4 rfl rfl rfl rfl) (Nat.le_of_ble_eq_true rfl) (fun w49 S50 => ?_)
  simp only [pS, pN, pA, pC, pZ]
  have S50 : St w F w49 F17 [⟨n46, [(.slice xa34 p.name.length xc35), (.slice xa38 p.key.length xc39), (.bool p.gone), (.slice xa43 p.value.length xc44)], 36⟩, ⟨n2, [(.int .i64 ((m.turn : Nat) : Int)), (.slice x1 m.writes.length y1)], 72⟩] [ownP 1 ByC ByC.mono 5 w.heap.size v ((encHead m.turn m.writes.length) ++ (m.writes.take k).flatMap encWr)] := S50
  refine wl_nil (hK29 _ _ ?_)
  refine wp_seq_k (fun K51 hK51 => ?_)
  obtain ⟨S52, le53, hc54⟩ := St.freezeBlk S50 (i := 0) rfl
  generalize addF F17 w49 n46 = F55 at *
  have S52 : St w F w49 F55 [⟨n2, [(.int .i64 ((m.turn : Nat) : Int)), (.slice x1 m.writes.length y1)], 72⟩] [ownP 1 ByC ByC.mono 5 w.heap.size v ((encHead m.turn m.writes.length) ++ (m.writes.take k).flatMap encWr)] := S52
  refine region_hl S52 (by kernel_rfl) (fun w57 S56 => ?_)
  refine hl_take 0 rfl (by kernel_rfl) (v := v) (fun _ _ _ h => h) S56.sat rfl (fun w58 hs59 => ex_move _) ?_
  simp only [pS, pN, pA, pC, pZ]
  refine hl_take 1 rfl (by kernel_rfl) (v := (.pointer (some ⟨n46, 0, none⟩))) (fun _ _ _ h => h) S56.sat rfl (fun w60 hs61 => ex_field (q := ⟨n46, 0, none⟩) rfl (fa_36_0 _ _)) ?_
  simp only [pS, pN, pA, pC, pZ]
  refine hl_take 2 rfl (by kernel_rfl) (v := (.slice xa34 p.name.length xc35)) (fun _ _ _ h => h) S56.sat rfl (fun w62 hs63 => ex_load rfl (load1 (nagg_23 _) (St.fz (St.start hs63) (hc54 0 _ rfl)))) ?_
  simp only [pS, pN, pA, pC, pZ]
  refine hl_take 4 rfl (by kernel_rfl) (v := (.pointer (some ⟨n46, 1, none⟩))) (fun _ _ _ h => h) S56.sat rfl (fun w64 hs65 => ex_field (q := ⟨n46, 1, none⟩) rfl (fa_36_1 _ _)) ?_
  simp only [pS, pN, pA, pC, pZ]
  refine hl_take 5 rfl (by kernel_rfl) (v := (.slice xa38 p.key.length xc39)) (fun _ _ _ h => h) S56.sat rfl (fun w66 hs67 => ex_load rfl (load1 (nagg_23 _) (St.fz (St.start hs67) (hc54 1 _ rfl)))) ?_
  simp only [pS, pN, pA, pC, pZ]
  refine hl_next 3 (by kernel_rfl) rfl ?_
  refine stOwn (L := [⟨n2, [(.int .i64 ((m.turn : Nat) : Int)), (.slice x1 m.writes.length y1)], 72⟩]) (M := fun v_ => [ownP 1 ByC ByC.mono 5 w.heap.size v_ (((encHead m.turn m.writes.length) ++ (m.writes.take k).flatMap encWr) ++ encPart p.name)]) rfl (ex_fn (vs := #[v, (.slice xa34 p.name.length xc35)]) (map2 rfl rfl) rfl (ent_57 _ _)) (tpart_spec S56 (r36.mono le53) (by simp only [List.length_append, encPart_len, encHead, List.length_cons, List.length_nil]; omega) (by omega)) ?_
  intro v68 w69 S70
  simp only [pS, pN, pA, pC, pZ]
  refine wl_nil (hl_back S70.sat ?_)
  refine hl_next 6 (by kernel_rfl) rfl ?_
  refine stOwn (L := [⟨n2, [(.int .i64 ((m.turn : Nat) : Int)), (.slice x1 m.writes.length y1)], 72⟩]) (M := fun v_ => [ownP 1 ByC ByC.mono 5 w.heap.size v_ ((((encHead m.turn m.writes.length) ++ (m.writes.take k).flatMap encWr) ++ encPart p.name) ++ encPart p.key)]) rfl (ex_fn (vs := #[v68, (.slice xa38 p.key.length xc39)]) (map2 rfl rfl) rfl (ent_57 _ _)) (tpart_spec S70 (r40.mono le53) (by simp only [List.length_append, encPart_len, encHead, List.length_cons, List.length_nil]; omega) (by omega)) ?_
  intro v71 w72 S73
  simp only [pS, pN, pA, pC, pZ]
  refine wl_nil (hl_back S73.sat ?_)
  refine hl_take 7 rfl (by kernel_rfl) (v := v71) (fun _ _ _ h => h) S73.sat rfl (fun w74 hs75 => ex_assign _) ?_
  simp only [pS, pN, pA, pC, pZ]
  refine hl_done (by kernel_rfl) ?_
  refine hK51 _ _ ?_
  refine wp_seq_k (fun K76 hK76 => ?_)
  refine wp_seq_k (fun K77 hK77 => region_wl ?_)
  refine do_ rfl (.pointer (some ⟨n46, 2, none⟩)) (ex_field (q := ⟨n46, 2, none⟩) rfl (fa_36_2 _ _)) ?_
  simp only [pS, pN, pA, pC, pZ]
  refine do_ rfl (.bool p.gone) (ex_load rfl (load1 (nagg_4 _) (St.fz S73 (hc54 2 _ rfl)))) ?_
  simp only [pS, pN, pA, pC, pZ]
  refine wl_nil (hK77 _ _ ?_)
  refine wp_cond_split rfl (fun hc78 => ?_) (fun hc78 => ?_)
  ·refine wp_seq_k (fun K79 hK79 => region_wl ?_)
   refine do_ rfl v71 (ex_move _) ?_
   simp only [pS, pN, pA, pC, pZ]
   refine stNew S73 (v := fun n => .slice (some ⟨n, 0, none⟩) 1 1) rfl (ex_lit (ps := #[(0, (.int .u8 255))]) (cells := #[(.int .u8 255)]) (E := 5) (bmap1 rfl) (fun w => by kernel_rfl)) (fun n80 w81 S82 => ?_)
   simp only [pS, pN, pA, pC, pZ]
   have S82 : St w F w81 F55 [⟨n80, [(.int .u8 255)], 5⟩, ⟨n2, [(.int .i64 ((m.turn : Nat) : Int)), (.slice x1 m.writes.length y1)], 72⟩] [ownP 1 ByC ByC.mono 5 w.heap.size v71 ((((encHead m.turn m.writes.length) ++ (m.writes.take k).flatMap encWr) ++ encPart p.name) ++ encPart p.key)] := S82
   refine stPush (i := 0) (r := 0) (p := (255 : UInt8)) (cs := [(.int .u8 255)]) S82 rfl i5 (.int .u8 0) 1 Tryd.underlying23 hi5 hz5 hs5 hb5 rfl (by decide) rfl rfl rfl rfl rfl (bv_one 255) (rfl) (Nat.le_refl _) S82.gr.below.size (by unfold maxLen; simp only [List.length_append, encPart_len, encHead, List.length_cons, List.length_nil]; omega) (by simp only [List.length_append, encPart_len, encHead, List.length_cons, List.length_nil]; omega) ?_
   intro v83 w84 S85 hn86
   simp only [pS, pN, pA, pC, pZ]
   have S85 := St.drop S85 (L' := [⟨n2, [(.int .i64 ((m.turn : Nat) : Int)), (.slice x1 m.writes.length y1)], 72⟩]) (.cons _ (List.Sublist.refl _))
   have S85 : St w F w84 F55 [⟨n2, [(.int .i64 ((m.turn : Nat) : Int)), (.slice x1 m.writes.length y1)], 72⟩] [ownP 1 ByC ByC.mono 5 w.heap.size v83 (((((encHead m.turn m.writes.length) ++ (m.writes.take k).flatMap encWr) ++ encPart p.name) ++ encPart p.key) ++ [(255 : UInt8)])] := S85
   refine do_ rfl v83 (ex_assign _) ?_
   simp only [pS, pN, pA, pC, pZ]
   refine wl_nil (hK79 _ _ ?_)
   refine wp_exit ?_
   refine hK28 _ _ ?_
   refine region_wl ?_
   refine do_ rfl (.int .i64 (((k + 1) : Nat) : Int)) (ex_add (m := ((k : Nat) : Int)) (n := (1 : Int)) (r := (((k + 1) : Nat) : Int)) rfl rfl (by omega) (by omega) (by omega)) ?_
   simp only [pS, pN, pA, pC, pZ]
   refine do_ rfl (.int .i64 (((k + 1) : Nat) : Int)) (ex_move _) ?_
   simp only [pS, pN, pA, pC, pZ]
   refine wl_nil ?_
   rw [enc_gone hp (by simpa using hc78)] at S85
   exact hK25 _ _ _ (by omega) ⟨(k + 1), v83, F55, _, rfl, rfl, rfl, S85, (le24.trans le53), (by omega)⟩
  ·refine wp_skip ?_
   refine hK76 _ _ ?_
   refine region_wl ?_
   refine do_ rfl v71 (ex_move _) ?_
   simp only [pS, pN, pA, pC, pZ]
   refine do_ rfl (.pointer (some ⟨n46, 3, none⟩)) (ex_field (q := ⟨n46, 3, none⟩) rfl (fa_36_3 _ _)) ?_
   simp only [pS, pN, pA, pC, pZ]
   refine do_ rfl (.slice xa43 p.value.length xc44) (ex_load rfl (load1 (nagg_23 _) (St.fz S73 (hc54 3 _ rfl)))) ?_
   simp only [pS, pN, pA, pC, pZ]
   refine stOwn (L := [⟨n2, [(.int .i64 ((m.turn : Nat) : Int)), (.slice x1 m.writes.length y1)], 72⟩]) (M := fun v_ => [ownP 1 ByC ByC.mono 5 w.heap.size v_ (((((encHead m.turn m.writes.length) ++ (m.writes.take k).flatMap encWr) ++ encPart p.name) ++ encPart p.key) ++ encPart p.value)]) rfl (ex_fn (vs := #[v71, (.slice xa43 p.value.length xc44)]) (map2 rfl rfl) rfl (ent_57 _ _)) (tpart_spec S73 (r45.mono le53) (by simp only [List.length_append, encPart_len, encHead, List.length_cons, List.length_nil]; omega) (by omega)) ?_
   intro v87 w88 S89
   simp only [pS, pN, pA, pC, pZ]
   refine do_ rfl v87 (ex_assign _) ?_
   simp only [pS, pN, pA, pC, pZ]
   refine wl_nil (hK28 _ _ ?_)
   refine region_wl ?_
   refine do_ rfl (.int .i64 (((k + 1) : Nat) : Int)) (ex_add (m := ((k : Nat) : Int)) (n := (1 : Int)) (r := (((k + 1) : Nat) : Int)) rfl rfl (by omega) (by omega) (by omega)) ?_
   simp only [pS, pN, pA, pC, pZ]
   refine do_ rfl (.int .i64 (((k + 1) : Nat) : Int)) (ex_move _) ?_
   simp only [pS, pN, pA, pC, pZ]
   refine wl_nil ?_
   rw [enc_val hp (by simpa using hc78)] at S89
   exact hK25 _ _ _ (by omega) ⟨(k + 1), v87, F55, _, rfl, rfl, rfl, S89, (le24.trans le53), (by omega)⟩
 ·refine do_ rfl (.bool false) (ex_lss (m := ((k : Nat) : Int)) (n := ((m.writes.length : Nat) : Int)) (b := false) rfl rfl (decide_eq_false (by omega))) ?_
  simp only [pS, pN, pA, pC, pZ]
  refine wl_nil (hK26 _ _ ?_)
  refine wp_seq_k (fun K90 hK90 => ?_)
  refine wp_cond_false rfl ?_
  refine wp_exit ?_
  refine hK14 _ _ ?_
  refine wp_seq_k (fun K91 hK91 => region_wl ?_)
  refine do_ rfl v (ex_move _) ?_
  simp only [pS, pN, pA, pC, pZ]
  refine do_ rfl v (ex_assign _) ?_
  simp only [pS, pN, pA, pC, pZ]
  refine do_ rfl (.int .i64 0) (ex_assign _) ?_
  simp only [pS, pN, pA, pC, pZ]
  refine wl_nil (hK91 _ _ ?_)
  refine wp_ret ?_
  (try simp only [Exit.then, Exit.inBlock, ↓reduceIte, Nat.reduceEqDiff])
  refine bodyPost_ret (v := (.tuple #[v, (.int .i64 0)])) ?_ rfl ?_
  ·exact res_tt rfl rfl rfl
  ·have hend : m.writes.take k = m.writes := List.take_of_length_le (by omega)
   rw [hend] at S23
   obtain ⟨F92, S93, le94, hv95⟩ := St.freeze S23 (i := 0) rfl (Nat.le_refl _)
   have S93 : St w F w22 F92 [⟨n2, [(.int .i64 ((m.turn : Nat) : Int)), (.slice x1 m.writes.length y1)], 72⟩] [] := S93
   have hv95 : Bys _ v ((encHead m.turn m.writes.length) ++ m.writes.flatMap encWr) := hv95
   exact ⟨_, _, rfl, S93.gr, _, rfl, bs_of_sl hv95⟩
theorem ex_shlN {P : Program} {ρ : Operand → Value} {w : World} {d : Option Tmp} {t X Y : TypeId} {x y : Operand} {pos : String} {after : Array Edge} {guard : Option (Nat × Bool)} {m n r : Nat} (hx : ρ x = .int .i64 (m : Int)) (hy : ρ y = .int .u64 (n : Int)) (hn : n ≤ 64) (e : m * 2 ^ n = r) (hr : r ≤ 9223372036854775807) : (execOp ρ ⟨d, .binOp .shl X x y Y, t, pos, after, guard⟩).run P w = .ok (.value (.int .i64 ((r : Nat) : Int))) w := by
  subst e
  refine ex_shr (.inr rfl) hx hy ?_
  show (Op.shift .shl .i64 (m : Int) .u64 (n : Int)).run P w = _
  unfold Op.shift
  rw [if_neg (by omega)]
  show Result.ok (Value.int .i64 (IntKind.i64.wrap ((m : Int) * 2 ^ (min (n : Int).toNat 64)))) w = _
  rw [Int.toNat_natCast, Nat.min_eq_left hn]
  have : (m : Int) * 2 ^ n = ((m * 2 ^ n : Nat) : Int) := by simp
  rw [this, wrap64_in (by omega) (by omega)]
theorem ex_orN {P : Program} {ρ : Operand → Value} {w : World} {d : Option Tmp} {t X Y : TypeId} {x y : Operand} {pos : String} {after : Array Edge} {guard : Option (Nat × Bool)} {m n r : Nat} (hx : ρ x = .int .i64 (m : Int)) (hy : ρ y = .int .i64 (n : Int)) (hm : m < 9223372036854775808) (hn : n < 9223372036854775808) (e : m ||| n = r) : (execOp ρ ⟨d, .binOp .or X x y Y, t, pos, after, guard⟩).run P w = .ok (.value (.int .i64 ((r : Nat) : Int))) w := by
  subst e
  refine ex_bin hx hy ?_
  rw [run_binInt _ (by simp)]
  show Result.ok (Value.int .i64 (IntKind.i64.wrap ((BitVec.ofInt 64 (m : Int) ||| BitVec.ofInt 64 (n : Int)).toNat : Int))) w = _
  have h1 : (BitVec.ofInt 64 (m : Int) ||| BitVec.ofInt 64 (n : Int)).toNat = m ||| n := by
    rw [BitVec.toNat_or, BitVec.ofInt_natCast, BitVec.ofInt_natCast, BitVec.toNat_ofNat, BitVec.toNat_ofNat, Nat.mod_eq_of_lt (by omega), Nat.mod_eq_of_lt (by omega)]
  have h2 : m ||| n < 2 ^ 63 := Nat.or_lt_two_pow (by omega) (by omega)
  rw [h1, wrap64_in (by omega) (by omega)]
theorem or16 (x y : Nat) (h : y < 256) : x * 65536 ||| y * 256 = x * 65536 + y * 256 := by
  have := Nat.two_pow_add_eq_or_of_lt (i := 16) (b := y * 256) (by omega) x
  rw [show 2 ^ 16 * x = x * 65536 from by omega] at this
  exact this.symm
theorem or8 (x y z : Nat) (h : z < 256) : (x * 65536 + y * 256) ||| z = x * 65536 + y * 256 + z := by
  have := Nat.two_pow_add_eq_or_of_lt (i := 8) (b := z) (by omega) (x * 256 + y)
  rw [show 2 ^ 8 * (x * 256 + y) = x * 65536 + y * 256 from by omega] at this
  exact this.symm
end Go.Proofs.YtikklmjengkliaaDoor
namespace Go.Proofs.YtikklmjengkliaaDoor
open Go.RowKit
set_option maxRecDepth 100000
set_option linter.unusedVariables false
set_option linter.unusedSimpArgs false
theorem Bs.cut {F : Fz} {a : Option Addr} {m c n : Nat} {l : By} (h : Bs F (.slice a m c) l) (hn : n ≤ m) : Bs F (.slice a n n) (l.take n) := by
  have hm := h.len
  obtain ⟨a', c0, e, q1, _⟩ := h.shape
  injection e with _ _ e
  have := bs_of_sl (Sl.cap (c' := n) (Sl.takeN (m := n) h.sl hn) (Nat.le_refl _) (by omega))
  exact this
theorem Bs.rest {F : Fz} {a : Option Addr} {m c n : Nat} {l : By} (h : Bs F (.slice a m c) l) (hn : n ≤ m) : Bs F (.slice (if c = n then a else a.map (·.add (n * 1))) (m - n) (c - n)) (l.drop n) := bs_of_sl (Sl.dropAny (by decide) h.sl hn)
theorem takeR_len (n : Nat) (r : Rr) : (takeR n r).1.length = n := by
  unfold takeR
  split
  · simp
  · rename_i h
    have : ¬ r.rest.length < n := fun k => h (.inr k)
    simp; omega
theorem takeR_bad {n : Nat} {r : Rr} (h : r.short = true ∨ r.rest.length < n) : takeR n r = (List.replicate n 0, ⟨r.rest, true⟩) := by unfold takeR; rw [if_pos h]
theorem takeR_good {n : Nat} {r : Rr} (h1 : r.short = false) (h2 : ¬ r.rest.length < n) : takeR n r = (r.rest.take n, ⟨r.rest.drop n, false⟩) := by unfold takeR; rw [if_neg (by rw [h1]; simpa using h2)]
theorem takeR_less (n : Nat) (r : Rr) : (takeR n r).2.rest.length ≤ r.rest.length := by
  unfold takeR
  split
  · exact Nat.le_refl _
  · simp
/-- What taking from a reader in a block of the caller's own leaves. -/
def TakeP (w0 : World) (F0 F : Fz) (rb : Nat) (T : TypeId) (L0 : List Blk) (M0 : List RowP) (x : By × Rr) (e : Ending) (w' : World) : Prop := ∃ v a' c' F', e = .returned v ∧ Le F F' ∧ St w0 F0 w' F' (⟨rb, [.slice a' x.2.rest.length c', .bool x.2.short], T⟩ :: L0) M0 ∧ Bs F' (.slice a' x.2.rest.length c') x.2.rest ∧ Bs F' v x.1
def ByteP (w0 : World) (F0 F : Fz) (rb : Nat) (T : TypeId) (L0 : List Blk) (M0 : List RowP) (x : Nat × Rr) (e : Ending) (w' : World) : Prop := ∃ a' c' F', e = .returned (.int .i64 ((x.1 : Nat) : Int)) ∧ Le F F' ∧ St w0 F0 w' F' (⟨rb, [.slice a' x.2.rest.length c', .bool x.2.short], T⟩ :: L0) M0 ∧ Bs F' (.slice a' x.2.rest.length c') x.2.rest
theorem stTake {P : Program} {w0 w : World} {F0 F : Fz} {rb : Nat} {T : TypeId} {L0 : List Blk} {M0 : List RowP} {x : By × Rr} {ops : Array Oper} {Q : Exit → Act → World → Prop} {a : Act} {rest : List Oper} {o : Oper} {k : FuncId} {vs : Array Value} (hw : Region.wanted o (yielded ops a.tmps) = true)
    (hr : (execOp a.eval o).run P w = .ok (.enter k vs) w) (hc : Calls P k vs w (TakeP w0 F0 F rb T L0 M0 x))
    (h : ∀ v a' c' w' F', Le F F' → St w0 F0 w' F' (⟨rb, [.slice a' x.2.rest.length c', .bool x.2.short], T⟩ :: L0) M0 → Bs F' (.slice a' x.2.rest.length c') x.2.rest → Bs F' v x.1 → WL P ops Q rest (a.put o.dst v) w') : WL P ops Q (o :: rest) a w :=
  doC hw hr hc fun e w' ⟨v, a', c', F', he, hl, hS, hb, hv⟩ => ⟨v, he, h v a' c' w' F' hl hS hb hv⟩
theorem stByte {P : Program} {w0 w : World} {F0 F : Fz} {rb : Nat} {T : TypeId} {L0 : List Blk} {M0 : List RowP} {x : Nat × Rr} {ops : Array Oper} {Q : Exit → Act → World → Prop} {a : Act} {rest : List Oper} {o : Oper} {k : FuncId} {vs : Array Value} (hw : Region.wanted o (yielded ops a.tmps) = true)
    (hr : (execOp a.eval o).run P w = .ok (.enter k vs) w) (hc : Calls P k vs w (ByteP w0 F0 F rb T L0 M0 x))
    (h : ∀ a' c' w' F', Le F F' → St w0 F0 w' F' (⟨rb, [.slice a' x.2.rest.length c', .bool x.2.short], T⟩ :: L0) M0 → Bs F' (.slice a' x.2.rest.length c') x.2.rest → WL P ops Q rest (a.put o.dst (.int .i64 ((x.1 : Nat) : Int))) w') : WL P ops Q (o :: rest) a w :=
  doC hw hr hc fun e w' ⟨a', c', F', he, hl, hS, hb⟩ => ⟨_, he, h a' c' w' F' hl hS hb⟩
set_option maxHeartbeats 8000000 in
theorem take_spec {w0 w : World} {F0 F : Fz} {L0 : List Blk} {M0 : List RowP} {rb : Nat} {a : Option Addr} {c : Nat} {r : Rr} {n : Nat}
    (S : St w0 F0 w F (⟨rb, [.slice a r.rest.length c, .bool r.short], 136⟩ :: L0) M0) (hr : Bs F (.slice a r.rest.length c) r.rest) (hn : n ≤ 1000) (hl : r.rest.length ≤ 100000) :
    Calls Tryd.prog 85 #[.pointer (some ⟨rb, 0, none⟩), .int .i64 ((n : Nat) : Int)] w (TakeP w0 F0 F rb 136 L0 M0 (takeR n r)) := by
 obtain ⟨_, _, e, hc1, hc2⟩ := hr.shape
 injection e with _ _ e
 subst e
 unfold maxLen at hc2
 obtain ⟨i5, hi5, hz5, hs5, hb5⟩ := info_parts infoU8
 go_enter Tryd.func85, Tryd.ntmps85
 refine wp_seq_k (fun K1 hK1 => region_wl ?_)
 refine do_ rfl (.slice none 0 0) (ex_assign _) ?_
 simp only [pS, pN, pA, pC, pZ]
 refine wl_nil (hK1 _ _ ?_)
 refine wp_seq_k (fun K2 hK2 => ?_)
 refine wp_seq_k (fun K3 hK3 => ?_)
 cases hsr : r.short with
 | true =>
  rw [hsr] at S
  refine region_wl ?_
  refine do_ rfl (.pointer (some ⟨rb, 0, none⟩)) (ex_move _) ?_
  simp only [pS, pN, pA, pC, pZ]
  refine do_ rfl (.pointer (some ⟨rb, 0, none⟩)) (ex_nil rfl) ?_
  simp only [pS, pN, pA, pC, pZ]
  refine do_ rfl (.pointer (some ⟨rb, 1, none⟩)) (ex_field (q := ⟨rb, 1, none⟩) rfl (fa_136_1 _ _)) ?_
  simp only [pS, pN, pA, pC, pZ]
  refine do_ rfl (.bool true) (ex_load rfl (load1 (nagg_4 _) (St.cell S (i := 0) rfl rfl))) ?_
  simp only [pS, pN, pA, pC, pZ]
  refine do_ rfl (.bool true) (ex_move _) ?_
  simp only [pS, pN, pA, pC, pZ]
  refine doN (wanted_no rfl rfl rfl (c := true) rfl (by decide)) ?_
  simp only [pS, pN, pA, pC, pZ]
  refine doN (wanted_no rfl rfl rfl (c := true) rfl (by decide)) ?_
  simp only [pS, pN, pA, pC, pZ]
  refine doN (wanted_no rfl rfl rfl (c := true) rfl (by decide)) ?_
  simp only [pS, pN, pA, pC, pZ]
  refine doN (wanted_no rfl rfl rfl (c := true) rfl (by decide)) ?_
  simp only [pS, pN, pA, pC, pZ]
  refine doN (wanted_no rfl rfl rfl (c := true) rfl (by decide)) ?_
  simp only [pS, pN, pA, pC, pZ]
  refine doN (wanted_no rfl rfl rfl (c := true) rfl (by decide)) ?_
  simp only [pS, pN, pA, pC, pZ]
  refine doN (wanted_no rfl rfl rfl (c := true) rfl (by decide)) ?_
  simp only [pS, pN, pA, pC, pZ]
  refine do_ rfl (.bool true) (ex_pick (b := true) rfl) ?_
  simp only [pS, pN, pA, pC, pZ]
  refine wl_nil (hK3 _ _ ?_)
  refine wp_cond_true rfl ?_
  refine wp_seq_k (fun K4 hK4 => region_wl ?_)
  refine do_ rfl (.pointer (some ⟨rb, 0, none⟩)) (ex_move _) ?_
  simp only [pS, pN, pA, pC, pZ]
  refine do_ rfl (.pointer (some ⟨rb, 0, none⟩)) (ex_nil rfl) ?_
  simp only [pS, pN, pA, pC, pZ]
  refine do_ rfl (.pointer (some ⟨rb, 1, none⟩)) (ex_field (q := ⟨rb, 1, none⟩) rfl (fa_136_1 _ _)) ?_
  simp only [pS, pN, pA, pC, pZ]
  refine stStore (i := 0) (v := (.bool true)) S rfl rfl rfl rfl (size_4) (allc1 rfl) (Nat.le_of_ble_eq_true rfl) (fun w5 S6 => ?_)
  simp only [pS, pN, pA, pC, pZ]
  have S6 : St w0 F0 w5 F (⟨rb, [(.slice a r.rest.length c), (.bool true)], 136⟩ :: L0) (M0) := S6
  refine wl_nil (hK4 _ _ ?_)
  refine wp_seq_k (fun K7 hK7 => region_wl ?_)
  refine do_ rfl (.int .i64 ((n : Nat) : Int)) (ex_move _) ?_
  simp only [pS, pN, pA, pC, pZ]
  refine stMake (k := 1) (n := n) (m := n) S6 rfl i5 (.int .u8 0) 1 Tryd.underlying23 hi5 hz5 hs5 hb5 rfl rfl (by omega) (by omega) (by omega) ?_
  intro g8 w9 S10
  rw [show (madeCells (Value.int .u8 0).cells (n * 1)).toList = ((List.replicate n (0 : UInt8)).map bv) from by rw [show (Value.int .u8 0).cells = #[.int .u8 0] from rfl, toList_madeCells_one]; simp [bv]] at S10
  simp only [pS, pN, pA, pC, pZ]
  have S10 : St w0 F0 w9 F (⟨g8, ((List.replicate n (0 : UInt8)).map bv), 5⟩ :: ⟨rb, [(.slice a r.rest.length c), (.bool true)], 136⟩ :: L0) (M0) := S10
  refine do_ rfl (.slice (some ⟨g8, 0, none⟩) n n) (ex_assign _) ?_
  simp only [pS, pN, pA, pC, pZ]
  refine wl_nil (hK7 _ _ ?_)
  refine wp_ret ?_
  (try simp only [Exit.then, Exit.inBlock, ↓reduceIte, Nat.reduceEqDiff])
  refine bodyPost_ret (v := (.slice (some ⟨g8, 0, none⟩) n n)) ?_ rfl ?_
  ·exact res_t rfl rfl
  ·rw [takeR_bad (.inl hsr)]
   obtain ⟨S11, le12, hc13⟩ := St.freezeBlk S10 (i := 0) rfl
   have r15 := bs_of_block (l := List.replicate n (0 : UInt8)) hc13 rfl (by rw [List.length_replicate]; unfold maxLen; omega)
   rw [List.length_replicate] at r15
   generalize addF F w9 g8 = F14 at *
   have S11 : St w0 F0 w9 F14 (⟨rb, [(.slice a r.rest.length c), (.bool true)], 136⟩ :: L0) (M0) := S11
   exact ⟨_, _, _, _, rfl, le12, S11, (hr.mono le12), r15⟩
 | false =>
  rw [hsr] at S
  refine region_wl ?_
  refine do_ rfl (.pointer (some ⟨rb, 0, none⟩)) (ex_move _) ?_
  simp only [pS, pN, pA, pC, pZ]
  refine do_ rfl (.pointer (some ⟨rb, 0, none⟩)) (ex_nil rfl) ?_
  simp only [pS, pN, pA, pC, pZ]
  refine do_ rfl (.pointer (some ⟨rb, 1, none⟩)) (ex_field (q := ⟨rb, 1, none⟩) rfl (fa_136_1 _ _)) ?_
  simp only [pS, pN, pA, pC, pZ]
  refine do_ rfl (.bool false) (ex_load rfl (load1 (nagg_4 _) (St.cell S (i := 0) rfl rfl))) ?_
  simp only [pS, pN, pA, pC, pZ]
  refine do_ rfl (.bool false) (ex_move _) ?_
  simp only [pS, pN, pA, pC, pZ]
  refine do_ rfl (.pointer (some ⟨rb, 0, none⟩)) (ex_move _) ?_
  simp only [pS, pN, pA, pC, pZ]
  refine do_ rfl (.pointer (some ⟨rb, 0, none⟩)) (ex_nil rfl) ?_
  simp only [pS, pN, pA, pC, pZ]
  refine do_ rfl (.pointer (some ⟨rb, 0, none⟩)) (ex_field (q := ⟨rb, 0, none⟩) rfl (fa_136_0 _ _)) ?_
  simp only [pS, pN, pA, pC, pZ]
  refine do_ rfl (.slice a r.rest.length c) (ex_load rfl (load1 (nagg_23 _) (St.cell S (i := 0) rfl rfl))) ?_
  simp only [pS, pN, pA, pC, pZ]
  refine do_ rfl (.int .i64 ((r.rest.length : Nat) : Int)) (ex_len Tryd.underlying23 rfl) ?_
  simp only [pS, pN, pA, pC, pZ]
  refine do_ rfl (.int .i64 ((n : Nat) : Int)) (ex_move _) ?_
  simp only [pS, pN, pA, pC, pZ]
  by_cases hc17 : r.rest.length < n
  ·refine do_ rfl (.bool true) (ex_lss (m := ((r.rest.length : Nat) : Int)) (n := ((n : Nat) : Int)) (b := true) rfl rfl (decide_eq_true (by omega))) ?_
   simp only [pS, pN, pA, pC, pZ]
   refine do_ rfl (.bool true) (ex_pick (b := false) rfl) ?_
   simp only [pS, pN, pA, pC, pZ]
   refine wl_nil (hK3 _ _ ?_)
   refine wp_cond_true rfl ?_
   refine wp_seq_k (fun K16 hK16 => region_wl ?_)
   refine do_ rfl (.pointer (some ⟨rb, 0, none⟩)) (ex_move _) ?_
   simp only [pS, pN, pA, pC, pZ]
   refine do_ rfl (.pointer (some ⟨rb, 0, none⟩)) (ex_nil rfl) ?_
   simp only [pS, pN, pA, pC, pZ]
   refine do_ rfl (.pointer (some ⟨rb, 1, none⟩)) (ex_field (q := ⟨rb, 1, none⟩) rfl (fa_136_1 _ _)) ?_
   simp only [pS, pN, pA, pC, pZ]
   refine stStore (i := 0) (v := (.bool true)) S rfl rfl rfl rfl (size_4) (allc1 rfl) (Nat.le_of_ble_eq_true rfl) (fun w17 S18 => ?_)
   simp only [pS, pN, pA, pC, pZ]
   have S18 : St w0 F0 w17 F (⟨rb, [(.slice a r.rest.length c), (.bool true)], 136⟩ :: L0) (M0) := S18
   refine wl_nil (hK16 _ _ ?_)
   refine wp_seq_k (fun K19 hK19 => region_wl ?_)
   refine do_ rfl (.int .i64 ((n : Nat) : Int)) (ex_move _) ?_
   simp only [pS, pN, pA, pC, pZ]
   refine stMake (k := 1) (n := n) (m := n) S18 rfl i5 (.int .u8 0) 1 Tryd.underlying23 hi5 hz5 hs5 hb5 rfl rfl (by omega) (by omega) (by omega) ?_
   intro g20 w21 S22
   rw [show (madeCells (Value.int .u8 0).cells (n * 1)).toList = ((List.replicate n (0 : UInt8)).map bv) from by rw [show (Value.int .u8 0).cells = #[.int .u8 0] from rfl, toList_madeCells_one]; simp [bv]] at S22
   simp only [pS, pN, pA, pC, pZ]
   have S22 : St w0 F0 w21 F (⟨g20, ((List.replicate n (0 : UInt8)).map bv), 5⟩ :: ⟨rb, [(.slice a r.rest.length c), (.bool true)], 136⟩ :: L0) (M0) := S22
   refine do_ rfl (.slice (some ⟨g20, 0, none⟩) n n) (ex_assign _) ?_
   simp only [pS, pN, pA, pC, pZ]
   refine wl_nil (hK19 _ _ ?_)
   refine wp_ret ?_
   (try simp only [Exit.then, Exit.inBlock, ↓reduceIte, Nat.reduceEqDiff])
   refine bodyPost_ret (v := (.slice (some ⟨g20, 0, none⟩) n n)) ?_ rfl ?_
   ·exact res_t rfl rfl
   ·rw [takeR_bad (.inr (by omega))]
    obtain ⟨S23, le24, hc25⟩ := St.freezeBlk S22 (i := 0) rfl
    have r27 := bs_of_block (l := List.replicate n (0 : UInt8)) hc25 rfl (by rw [List.length_replicate]; unfold maxLen; omega)
    rw [List.length_replicate] at r27
    generalize addF F w21 g20 = F26 at *
    have S23 : St w0 F0 w21 F26 (⟨rb, [(.slice a r.rest.length c), (.bool true)], 136⟩ :: L0) (M0) := S23
    exact ⟨_, _, _, _, rfl, le24, S23, (hr.mono le24), r27⟩
  ·refine do_ rfl (.bool false) (ex_lss (m := ((r.rest.length : Nat) : Int)) (n := ((n : Nat) : Int)) (b := false) rfl rfl (decide_eq_false (by omega))) ?_
   simp only [pS, pN, pA, pC, pZ]
   refine do_ rfl (.bool false) (ex_pick (b := false) rfl) ?_
   simp only [pS, pN, pA, pC, pZ]
   refine wl_nil (hK3 _ _ ?_)
   refine wp_cond_false rfl ?_
   refine wp_skip ?_
   refine hK2 _ _ ?_
   refine wp_seq_k (fun K28 hK28 => region_wl ?_)
   refine do_ rfl (.pointer (some ⟨rb, 0, none⟩)) (ex_move _) ?_
   simp only [pS, pN, pA, pC, pZ]
   refine do_ rfl (.pointer (some ⟨rb, 0, none⟩)) (ex_nil rfl) ?_
   simp only [pS, pN, pA, pC, pZ]
   refine do_ rfl (.pointer (some ⟨rb, 0, none⟩)) (ex_field (q := ⟨rb, 0, none⟩) rfl (fa_136_0 _ _)) ?_
   simp only [pS, pN, pA, pC, pZ]
   refine do_ rfl (.slice a r.rest.length c) (ex_load rfl (load1 (nagg_23 _) (St.cell S (i := 0) rfl rfl))) ?_
   simp only [pS, pN, pA, pC, pZ]
   refine do_ rfl (.int .i64 ((n : Nat) : Int)) (ex_move _) ?_
   simp only [pS, pN, pA, pC, pZ]
   refine do_ rfl (.int .i64 ((n : Nat) : Int)) (ex_move _) ?_
   simp only [pS, pN, pA, pC, pZ]
   have r29 : Bs _ (.slice a n n) (r.rest.take n) := Bs.cut hr (by omega)
   refine do_ rfl (.slice a n n) (ex_slice3_0 (h := n) (m := n) (sz := 1) Tryd.underlying23 rfl (sizeof_5 _) rfl rfl (by omega) (by omega) rfl) ?_
   simp only [pS, pN, pA, pC, pZ]
   refine do_ rfl (.slice a n n) (ex_assign _) ?_
   simp only [pS, pN, pA, pC, pZ]
   refine wl_nil (hK28 _ _ ?_)
   refine wp_seq_k (fun K30 hK30 => region_wl ?_)
   refine do_ rfl (.pointer (some ⟨rb, 0, none⟩)) (ex_move _) ?_
   simp only [pS, pN, pA, pC, pZ]
   refine do_ rfl (.pointer (some ⟨rb, 0, none⟩)) (ex_move _) ?_
   simp only [pS, pN, pA, pC, pZ]
   refine do_ rfl (.pointer (some ⟨rb, 0, none⟩)) (ex_nil rfl) ?_
   simp only [pS, pN, pA, pC, pZ]
   refine do_ rfl (.pointer (some ⟨rb, 0, none⟩)) (ex_field (q := ⟨rb, 0, none⟩) rfl (fa_136_0 _ _)) ?_
   simp only [pS, pN, pA, pC, pZ]
   refine do_ rfl (.slice a r.rest.length c) (ex_load rfl (load1 (nagg_23 _) (St.cell S (i := 0) rfl rfl))) ?_
   simp only [pS, pN, pA, pC, pZ]
   refine do_ rfl (.int .i64 ((n : Nat) : Int)) (ex_move _) ?_
   simp only [pS, pN, pA, pC, pZ]
   have r31 : Bs _ (.slice (if c = n then a else a.map (·.add (n * 1))) (r.rest.length - n) (c - n)) (r.rest.drop n) := Bs.rest hr (by omega)
   refine do_ rfl (.slice (if c = n then a else a.map (·.add (n * 1))) (r.rest.length - n) (c - n)) (ex_slice (l := n) (h := r.rest.length) (sz := 1) Tryd.underlying23 rfl (sizeof_5 _) (.inr ⟨_, rfl, rfl⟩) (.inl ⟨rfl, rfl⟩) (by omega) (by omega) (rfl)) ?_
   simp only [pS, pN, pA, pC, pZ]
   refine do_ rfl (.pointer (some ⟨rb, 0, none⟩)) (ex_nil rfl) ?_
   simp only [pS, pN, pA, pC, pZ]
   refine do_ rfl (.pointer (some ⟨rb, 0, none⟩)) (ex_field (q := ⟨rb, 0, none⟩) rfl (fa_136_0 _ _)) ?_
   simp only [pS, pN, pA, pC, pZ]
   refine stStore (i := 0) (v := (.slice (if c = n then a else a.map (·.add (n * 1))) (r.rest.length - n) (c - n))) S rfl rfl rfl rfl (size_23) (allc1 rfl) (Nat.le_of_ble_eq_true rfl) (fun w32 S33 => ?_)
   simp only [pS, pN, pA, pC, pZ]
   have S33 : St w0 F0 w32 F (⟨rb, [(.slice (if c = n then a else a.map (·.add (n * 1))) (r.rest.length - n) (c - n)), (.bool false)], 136⟩ :: L0) (M0) := S33
   refine wl_nil (hK30 _ _ ?_)
   refine wp_seq_k (fun K34 hK34 => region_wl ?_)
   refine do_ rfl (.slice a n n) (ex_move _) ?_
   simp only [pS, pN, pA, pC, pZ]
   refine stGives S33 rfl (ex_fn (vs := #[(.slice a n n)]) (map1 rfl) rfl (ent_64 _ _)) (clone_spec _ _ _ (r.rest.take n) (S33).sat r29 (by simp only [List.length_take]; omega)) ?_
   intro v40 w35 F37 S36 le38 R39
   obtain ⟨xa41, xc42, rfl, _⟩ := R39.shape
   simp only [pS, pN, pA, pC, pZ]
   refine do_ rfl (.slice xa41 (r.rest.take n).length xc42) (ex_assign _) ?_
   simp only [pS, pN, pA, pC, pZ]
   refine wl_nil (hK34 _ _ ?_)
   refine wp_ret ?_
   (try simp only [Exit.then, Exit.inBlock, ↓reduceIte, Nat.reduceEqDiff])
   refine bodyPost_ret (v := (.slice xa41 (r.rest.take n).length xc42)) ?_ rfl ?_
   ·exact res_t rfl rfl
   ·rw [takeR_good hsr (by omega)]
    have hlen : r.rest.length - n = (r.rest.drop n).length := (List.length_drop ..).symm
    have hS := S36
    have hB := (r31.mono le38)
    rw [hlen] at hS hB
    exact ⟨_, _, _, _, rfl, le38, hS, hB, R39⟩
set_option maxHeartbeats 8000000 in
theorem byte_spec {w0 w : World} {F0 F : Fz} {L0 : List Blk} {M0 : List RowP} {rb : Nat} {a : Option Addr} {c : Nat} {r : Rr}
    (S : St w0 F0 w F (⟨rb, [.slice a r.rest.length c, .bool r.short], 136⟩ :: L0) M0) (hr : Bs F (.slice a r.rest.length c) r.rest) (hl : r.rest.length ≤ 100000) :
    Calls Tryd.prog 84 #[.pointer (some ⟨rb, 0, none⟩)] w (ByteP w0 F0 F rb 136 L0 M0 (byteR r)) := by
 go_enter Tryd.func84, Tryd.ntmps84
 refine wp_seq_k (fun K1 hK1 => region_wl ?_)
 refine do_ rfl (.int .i64 0) (ex_assign _) ?_
 simp only [pS, pN, pA, pC, pZ]
 refine wl_nil (hK1 _ _ ?_)
 refine wp_seq_k (fun K2 hK2 => region_wl ?_)
 refine do_ rfl (.pointer (some ⟨rb, 0, none⟩)) (ex_move _) ?_
 simp only [pS, pN, pA, pC, pZ]
 refine stTake rfl (ex_fn (vs := #[(.pointer (some ⟨rb, 0, none⟩)), (.int .i64 1)]) (map2 rfl rfl) rfl (ent_85 _ _)) (take_spec (n := 1) S hr (by omega) hl) ?_
 intro v3 a4 c5 w6 F7 le8 S9 r10 r11
 obtain ⟨b0, hb0⟩ : ∃ b, (takeR 1 r).1 = [b] := List.length_eq_one_iff.1 (takeR_len 1 r)
 rw [hb0] at r11
 obtain ⟨xa, xc, rfl, _⟩ := r11.shape
 simp only [pS, pN, pA, pC, pZ]
 obtain ⟨b12, o13, ha14, c15⟩ := Bs.get r11 (show ([b0] : By)[0]? = some b0 from rfl)
 refine do_ rfl (.pointer (some ⟨b12, o13 + 0 * 1, none⟩)) (ex_at (i := 0) (sz := 1) Tryd.underlying23 (sizeof_5 _) rfl ha14 rfl (by simp) rfl) ?_
 simp only [pS, pN, pA, pC, pZ]
 refine do_ rfl (bv b0) (ex_load rfl (load1 (nagg_5 _) (St.fz S9 c15))) ?_
 simp only [pS, pN, pA, pC, pZ]
 refine do_ rfl (.int .i64 ((b0.toNat : Nat) : Int)) (ex_convert (v := (bv b0)) rfl (conv_int b0 _)) ?_
 simp only [pS, pN, pA, pC, pZ]
 refine do_ rfl (.int .i64 ((b0.toNat : Nat) : Int)) (ex_assign _) ?_
 simp only [pS, pN, pA, pC, pZ]
 refine wl_nil (hK2 _ _ ?_)
 refine wp_ret ?_
 (try simp only [Exit.then, Exit.inBlock, ↓reduceIte, Nat.reduceEqDiff])
 refine bodyPost_ret (v := (.int .i64 ((b0.toNat : Nat) : Int))) ?_ rfl ?_
 ·exact res_t rfl rfl
 ·have he : (byteR r).1 = b0.toNat := by unfold byteR; rw [hb0]; rfl
  refine ⟨_, _, _, by rw [he], le8, S9, r10⟩
end Go.Proofs.YtikklmjengkliaaDoor
namespace Go.Proofs.YtikklmjengkliaaDoor
open Go.RowKit
set_option maxRecDepth 100000
set_option linter.unusedVariables false
set_option linter.unusedSimpArgs false
theorem applyE_none (r : Wr) : (applyE [] [r]).1 = wrE r := by
  unfold applyE
  rw [if_neg (by simp)]
  by_cases h : wrE r = 0
  · unfold applyR
    rw [if_neg (by simp [h])]
    cases hw : writeF [] r with
    | none =>
      have := (writeF_none (m := 0) (ForestOk.nil 0) (wrE_ok.1 h) (by omega) hw).1
      simp at this
    | some g => exact h.symm
  · rw [wr_bad h]
def chkAt (l : List Wr) : Nat → Nat → Int
  | 0, _ => 0
  | n + 1, k => match l[k]? with
    | none => 0
    | some r => if k = 10 then 1 else if wrE r ≠ 0 then wrE r else chkAt l n (k + 1)
theorem chkAt_at {l : List Wr} {k : Nat} {r : Wr} (hp : l[k]? = some r) : chkAt l (l.length - k) k = if k = 10 then 1 else if wrE r ≠ 0 then wrE r else chkAt l (l.length - (k + 1)) (k + 1) := by
  obtain ⟨hk, _⟩ := List.getElem?_eq_some_iff.1 hp
  rw [show l.length - k = (l.length - (k + 1)) + 1 from by omega]
  simp only [chkAt, hp]
theorem chkAt_end {l : List Wr} {k : Nat} (hk : l.length ≤ k) : chkAt l (l.length - k) k = 0 := by rw [show l.length - k = 0 from by omega]; rfl
theorem chkAt_ok {l : List Wr} : ∀ n k, n + k = l.length → (chkAt l n k = 0 ↔ ∀ (i : Nat) r, k ≤ i → l[i]? = some r → i ≠ 10 ∧ wrE r = 0)
  | 0, k, h => ⟨fun _ i r hi hr => by have := (List.getElem?_eq_some_iff.1 hr).1; omega, fun _ => rfl⟩
  | n + 1, k, h => by
    have hk : k < l.length := by omega
    obtain ⟨x, hp⟩ : ∃ x, l[k]? = some x := ⟨_, List.getElem?_eq_getElem hk⟩
    simp only [chkAt, hp]
    by_cases h1 : k = 10
    · rw [if_pos h1]
      exact ⟨fun h => by omega, fun h => absurd h1 (h k _ (Nat.le_refl _) hp).1⟩
    · rw [if_neg h1]
      by_cases h2 : wrE x = 0
      · rw [if_neg (by simpa using h2), chkAt_ok n (k + 1) (by omega)]
        refine ⟨fun h i r hi hr => ?_, fun h i r hi hr => h i r (by omega) hr⟩
        rcases Nat.lt_or_eq_of_le hi with hi | rfl
        · exact h i r hi hr
        · rw [hp] at hr; cases hr; exact ⟨h1, h2⟩
      · rw [if_pos h2]
        exact ⟨fun h => absurd h h2, fun h => absurd (h k _ (Nat.le_refl _) hp).2 h2⟩
def tapeE (m : Cm) : Int := if m.turn < 1 ∨ 1048576 < m.turn then 2 else if m.writes.length < 1 then 1 else chkAt m.writes m.writes.length 0
theorem tapeE_ok {m : Cm} : tapeE m = 0 ↔ CmOk m := by
  unfold tapeE
  by_cases h1 : m.turn < 1 ∨ 1048576 < m.turn
  · rw [if_pos h1]; exact ⟨fun h => by omega, fun h => by have := h.turn; omega⟩
  · rw [if_neg h1]
    by_cases h2 : m.writes.length < 1
    · rw [if_pos h2]; exact ⟨fun h => by omega, fun h => by have := h.some; omega⟩
    · rw [if_neg h2, chkAt_ok _ _ (by omega)]
      constructor
      · intro h
        refine ⟨by omega, ⟨by omega, ?_⟩, fun w hw => ?_⟩
        · rcases Nat.lt_or_ge 10 m.writes.length with h3 | h3
          · exact absurd rfl (h 10 _ (Nat.zero_le _) (List.getElem?_eq_getElem h3)).1
          · exact h3
        · obtain ⟨i, hi, rfl⟩ := List.mem_iff_getElem.1 hw
          exact wrE_ok.1 (h i _ (Nat.zero_le _) (List.getElem?_eq_getElem hi)).2
      · intro h i r _ hr
        have hi := (List.getElem?_eq_some_iff.1 hr).1
        have := h.some.2
        exact ⟨by omega, wrE_ok.2 (h.ok r (List.mem_of_getElem? hr))⟩
theorem byteR_lt (r : Rr) : (byteR r).1 < 256 := UInt8.toNat_lt _
theorem byteR_less (r : Rr) : (byteR r).2.rest.length ≤ r.rest.length := takeR_less 1 r
def decE (b : By) : Int := if (cmR ⟨b, false⟩).2.short = true then 14 else if 0 < (cmR ⟨b, false⟩).2.rest.length then 4 else tapeE ⟨(cmR ⟨b, false⟩).1.1, (cmR ⟨b, false⟩).1.2⟩
def decC (b : By) : Cm := if decE b = 0 then ⟨(cmR ⟨b, false⟩).1.1, (cmR ⟨b, false⟩).1.2⟩ else ⟨0, []⟩
def DecR (m : Cm) (e : Int) (F : Fz) (u : Value) : Prop := ∃ x, u = .tuple #[x, .int .i64 e] ∧ CmV F x m
theorem wrs_step {T k : Nat} {N rk r' : Rr} {acc : List Wr} {w : Wr} (h : wrsR T N = (acc ++ (wrsR (T - k) rk).1, (wrsR (T - k) rk).2)) (hk : k < T) (hw : wrR rk = (w, r')) : wrsR T N = ((acc ++ [w]) ++ (wrsR (T - (k + 1)) r').1, (wrsR (T - (k + 1)) r').2) := by
  rw [h, show T - k = (T - (k + 1)) + 1 from by omega]
  simp only [wrsR, hw]
  simp
theorem wrs_end {T k : Nat} {N rk : Rr} {acc : List Wr} (h : wrsR T N = (acc ++ (wrsR (T - k) rk).1, (wrsR (T - k) rk).2)) (hk : T ≤ k) : wrsR T N = (acc, rk) := by
  rw [show T - k = 0 from by omega] at h
  simpa [wrsR] using h
def Small (w : Wr) : Prop := w.name.length ≤ 100000 ∧ w.key.length ≤ 100000 ∧ w.value.length ≤ 100000
set_option maxHeartbeats 8000000 in
theorem tapeCheck_spec (F : Fz) (w : World) (v : Value) (m : Cm) (hs : Sat w F) (hv : CmV F v m) (hbw : ∀ r ∈ m.writes, Small r) :
    Calls Tryd.prog 56 #[v] w (Tells w (.int .i64 (tapeE m))) := by
 obtain ⟨x1, y1, rfl, h1⟩ := hv
 obtain ⟨_, _, e1, q2, q3⟩ := Sl.shape h1
 injection e1 with _ _ e1
 subst e1
 unfold maxLen at q3
 have S := St.start hs
 go_enter Tryd.func56, Tryd.ntmps56
 refine wp_seq_k (fun K1 hK1 => region_wl ?_)
 refine stNew S (v := fun n => .pointer (some ⟨n, 0, none⟩)) rfl (ex_box (v := (.agg #[(.int .i64 ((m.turn : Nat) : Int)), (.slice x1 m.writes.length y1)])) rfl) (fun n2 w3 S4 => ?_)
 simp only [pS, pN, pA, pC, pZ]
 have S4 : St w F w3 F [⟨n2, [(.int .i64 ((m.turn : Nat) : Int)), (.slice x1 m.writes.length y1)], 72⟩] [] := S4
 refine do_ rfl (.int .i64 0) (ex_assign _) ?_
 simp only [pS, pN, pA, pC, pZ]
 refine wl_nil (hK1 _ _ ?_)
 refine wp_seq_k (fun K5 hK5 => ?_)
 refine wp_seq_k (fun K6 hK6 => region_wl ?_)
 refine do_ rfl (.pointer (some ⟨n2, 0, none⟩)) (ex_field (q := ⟨n2, 0, none⟩) rfl (fa_72_0 _ _)) ?_
 simp only [pS, pN, pA, pC, pZ]
 refine do_ rfl (.int .i64 ((m.turn : Nat) : Int)) (ex_load rfl (load1 (nagg_3 _) (St.cell S4 (i := 0) rfl rfl))) ?_
 simp only [pS, pN, pA, pC, pZ]
 by_cases hc9 : m.turn < 1
 ·refine do_ rfl (.bool true) (ex_lss (m := ((m.turn : Nat) : Int)) (n := (1 : Int)) (b := true) rfl rfl (decide_eq_true (by omega))) ?_
  simp only [pS, pN, pA, pC, pZ]
  refine do_ rfl (.bool true) (ex_move _) ?_
  simp only [pS, pN, pA, pC, pZ]
  refine doN (wanted_no rfl rfl rfl (c := true) rfl (by decide)) ?_
  simp only [pS, pN, pA, pC, pZ]
  refine doN (wanted_no rfl rfl rfl (c := true) rfl (by decide)) ?_
  simp only [pS, pN, pA, pC, pZ]
  refine doN (wanted_no rfl rfl rfl (c := true) rfl (by decide)) ?_
  simp only [pS, pN, pA, pC, pZ]
  refine do_ rfl (.bool true) (ex_pick (b := true) rfl) ?_
  simp only [pS, pN, pA, pC, pZ]
  refine wl_nil (hK6 _ _ ?_)
  refine wp_cond_true rfl ?_
  refine wp_seq_k (fun K7 hK7 => region_wl ?_)
  refine do_ rfl (.int .i64 2) (ex_assign _) ?_
  simp only [pS, pN, pA, pC, pZ]
  refine wl_nil (hK7 _ _ ?_)
  refine wp_ret ?_
  (try simp only [Exit.then, Exit.inBlock, ↓reduceIte, Nat.reduceEqDiff])
  refine bodyPost_ret (v := (.int .i64 2)) ?_ rfl ?_
  ·exact res_t rfl rfl
  ·exact ⟨by unfold tapeE; rw [if_pos (by omega)], S4.gr.below⟩
 ·refine do_ rfl (.bool false) (ex_lss (m := ((m.turn : Nat) : Int)) (n := (1 : Int)) (b := false) rfl rfl (decide_eq_false (by omega))) ?_
  simp only [pS, pN, pA, pC, pZ]
  refine do_ rfl (.bool false) (ex_move _) ?_
  simp only [pS, pN, pA, pC, pZ]
  refine do_ rfl (.pointer (some ⟨n2, 0, none⟩)) (ex_field (q := ⟨n2, 0, none⟩) rfl (fa_72_0 _ _)) ?_
  simp only [pS, pN, pA, pC, pZ]
  refine do_ rfl (.int .i64 ((m.turn : Nat) : Int)) (ex_load rfl (load1 (nagg_3 _) (St.cell S4 (i := 0) rfl rfl))) ?_
  simp only [pS, pN, pA, pC, pZ]
  by_cases hc13 : 1048576 < m.turn
  ·refine do_ rfl (.bool true) (ex_gtr (m := ((m.turn : Nat) : Int)) (n := (1048576 : Int)) (b := true) rfl rfl (decide_eq_true (by omega))) ?_
   simp only [pS, pN, pA, pC, pZ]
   refine do_ rfl (.bool true) (ex_pick (b := false) rfl) ?_
   simp only [pS, pN, pA, pC, pZ]
   refine wl_nil (hK6 _ _ ?_)
   refine wp_cond_true rfl ?_
   refine wp_seq_k (fun K8 hK8 => region_wl ?_)
   refine do_ rfl (.int .i64 2) (ex_assign _) ?_
   simp only [pS, pN, pA, pC, pZ]
   refine wl_nil (hK8 _ _ ?_)
   refine wp_ret ?_
   (try simp only [Exit.then, Exit.inBlock, ↓reduceIte, Nat.reduceEqDiff])
   refine bodyPost_ret (v := (.int .i64 2)) ?_ rfl ?_
   ·exact res_t rfl rfl
   ·exact ⟨by unfold tapeE; rw [if_pos (by omega)], S4.gr.below⟩
  ·refine do_ rfl (.bool false) (ex_gtr (m := ((m.turn : Nat) : Int)) (n := (1048576 : Int)) (b := false) rfl rfl (decide_eq_false (by omega))) ?_
   simp only [pS, pN, pA, pC, pZ]
   refine do_ rfl (.bool false) (ex_pick (b := false) rfl) ?_
   simp only [pS, pN, pA, pC, pZ]
   refine wl_nil (hK6 _ _ ?_)
   refine wp_cond_false rfl ?_
   refine wp_skip ?_
   refine hK5 _ _ ?_
   refine wp_seq_k (fun K9 hK9 => ?_)
   refine wp_seq_k (fun K10 hK10 => region_wl ?_)
   refine do_ rfl (.pointer (some ⟨n2, 1, none⟩)) (ex_field (q := ⟨n2, 1, none⟩) rfl (fa_72_1 _ _)) ?_
   simp only [pS, pN, pA, pC, pZ]
   refine do_ rfl (.slice x1 m.writes.length y1) (ex_load rfl (load1 (nagg_37 _) (St.cell S4 (i := 0) rfl rfl))) ?_
   simp only [pS, pN, pA, pC, pZ]
   refine do_ rfl (.int .i64 ((m.writes.length : Nat) : Int)) (ex_len Tryd.underlying37 rfl) ?_
   simp only [pS, pN, pA, pC, pZ]
   by_cases hc18 : m.writes.length < 1
   ·refine do_ rfl (.bool true) (ex_lss (m := ((m.writes.length : Nat) : Int)) (n := (1 : Int)) (b := true) rfl rfl (decide_eq_true (by omega))) ?_
    simp only [pS, pN, pA, pC, pZ]
    refine wl_nil (hK10 _ _ ?_)
    refine wp_cond_true rfl ?_
    refine wp_seq_k (fun K11 hK11 => region_wl ?_)
    refine do_ rfl (.int .i64 1) (ex_assign _) ?_
    simp only [pS, pN, pA, pC, pZ]
    refine wl_nil (hK11 _ _ ?_)
    refine wp_ret ?_
    (try simp only [Exit.then, Exit.inBlock, ↓reduceIte, Nat.reduceEqDiff])
    refine bodyPost_ret (v := (.int .i64 1)) ?_ rfl ?_
    ·exact res_t rfl rfl
    ·exact ⟨by unfold tapeE; rw [if_neg (by omega), if_pos (by omega)], S4.gr.below⟩
   ·refine do_ rfl (.bool false) (ex_lss (m := ((m.writes.length : Nat) : Int)) (n := (1 : Int)) (b := false) rfl rfl (decide_eq_false (by omega))) ?_
    simp only [pS, pN, pA, pC, pZ]
    refine wl_nil (hK10 _ _ ?_)
    refine wp_cond_false rfl ?_
    refine wp_skip ?_
    refine hK9 _ _ ?_
    refine wp_seq_k (fun K12 hK12 => ?_)
    refine wp_seq_k (fun K13 hK13 => region_wl ?_)
    refine do_ rfl (.pointer (some ⟨n2, 1, none⟩)) (ex_field (q := ⟨n2, 1, none⟩) rfl (fa_72_1 _ _)) ?_
    simp only [pS, pN, pA, pC, pZ]
    refine do_ rfl (.slice x1 m.writes.length y1) (ex_load rfl (load1 (nagg_37 _) (St.cell S4 (i := 0) rfl rfl))) ?_
    simp only [pS, pN, pA, pC, pZ]
    refine do_ rfl (.int .i64 ((m.writes.length : Nat) : Int)) (ex_len Tryd.underlying37 rfl) ?_
    simp only [pS, pN, pA, pC, pZ]
    refine do_ rfl (.int .i64 0) (ex_move _) ?_
    simp only [pS, pN, pA, pC, pZ]
    refine wl_nil (hK13 _ _ ?_)
    refine wp_block ?_
    refine wp_loop_g (fun mm aa w16 => ∃ (k : Nat) (F14 : Fz) (u15 : Nat → Value), mm = m.writes.length - k ∧ u15 = slots aa ∧ aa = ⟨#[(.agg #[(.int .i64 ((m.turn : Nat) : Int)), (.slice x1 m.writes.length y1)]), (.pointer (some ⟨n2, 0, none⟩)), (u15 2), (u15 3), (u15 4), (u15 5), (u15 6), (.pointer (some ⟨n2, 0, none⟩)), (.int .i64 ((m.turn : Nat) : Int)), (.bool false), (.bool false), (.pointer (some ⟨n2, 0, none⟩)), (.int .i64 ((m.turn : Nat) : Int)), (.bool false), (.bool false), (.pointer (some ⟨n2, 1, none⟩)), (.slice x1 m.writes.length y1), (.int .i64 ((m.writes.length : Nat) : Int)), (.bool false), (.pointer (some ⟨n2, 1, none⟩)), (.slice x1 m.writes.length y1), (.int .i64 ((m.writes.length : Nat) : Int)), (.int .i64 ((k : Nat) : Int)), (u15 23), (u15 24), (u15 25), (u15 26), (u15 27), (u15 28), (u15 29), (u15 30), (u15 31), (u15 32), (u15 33), (u15 34), (u15 35), (u15 36), (u15 37), (u15 38)], []⟩ ∧ St w F w16 F14 [⟨n2, [(.int .i64 ((m.turn : Nat) : Int)), (.slice x1 m.writes.length y1)], 72⟩] [] ∧ Le F F14 ∧ (k ≤ m.writes.length) ∧ (chkAt m.writes m.writes.length 0 = chkAt m.writes (m.writes.length - k) k)) _ ⟨0, F, _, rfl, rfl, rfl, S4, Le.refl _, (by omega), rfl⟩ ?_
    rintro m17 a18 w19 ⟨k, F14, u15, rfl, -, rfl, S20, le21, hk, hT⟩ K22 hK22
    refine wp_seq_k (fun K23 hK23 => region_wl ?_)
    by_cases hc23 : k < m.writes.length
    ·refine do_ rfl (.bool true) (ex_lss (m := ((k : Nat) : Int)) (n := ((m.writes.length : Nat) : Int)) (b := true) rfl rfl (decide_eq_true (by omega))) ?_
     simp only [pS, pN, pA, pC, pZ]
     refine wl_nil (hK23 _ _ ?_)
     refine wp_seq_k (fun K24 hK24 => ?_)
     refine wp_cond_true rfl ?_
     refine wp_skip ?_
     refine hK24 _ _ ?_
     refine wp_seq_k (fun K25 hK25 => ?_)
     refine wp_block ?_
     refine wp_seq_k (fun K26 hK26 => ?_)
     obtain ⟨p, hp⟩ : ∃ p, m.writes[k]? = some p := ⟨m.writes[k], List.getElem?_eq_getElem hc23⟩
     have hpb := hbw p (List.mem_of_getElem? hp)
     obtain ⟨b27, o28, ha29, xa31, xc32, xa35, xc36, xa40, xc41, c30, c34, c38, c39, r33, r37, r42⟩ := Wrs.get (h1.mono le21) hp
     refine region_wl ?_
     refine do_ rfl (.int .i64 ((k : Nat) : Int)) (ex_move _) ?_
     simp only [pS, pN, pA, pC, pZ]
     refine do_ rfl (.pointer (some ⟨b27, o28 + k * 4, none⟩)) (ex_at (i := k) (sz := 4) Tryd.underlying37 (sizeof_36 _) rfl ha29 rfl (by omega) rfl) ?_
     simp only [pS, pN, pA, pC, pZ]
     refine do_ rfl (.agg #[(.slice xa31 p.name.length xc32), (.slice xa35 p.key.length xc36), (.bool p.gone), (.slice xa40 p.value.length xc41)]) (ex_load rfl (loadN (cs := [(.slice xa31 p.name.length xc32), (.slice xa35 p.key.length xc36), (.bool p.gone), (.slice xa40 p.value.length xc41)]) Tryd.underlying36 rfl (size_36) (range4 (St.fz S20 c30) (St.fz S20 c34) (St.fz S20 c38) (St.fz S20 c39)))) ?_
     simp only [pS, pN, pA, pC, pZ]
     refine stNew S20 (v := fun n => .pointer (some ⟨n, 0, none⟩)) rfl (ex_alloc (zero_36 _)) (fun n43 w44 S45 => ?_)
     simp only [pS, pN, pA, pC, pZ]
     have S45 : St w F w44 F14 [⟨n43, [(.slice none 0 0), (.slice none 0 0), (.bool false), (.slice none 0 0)], 36⟩, ⟨n2, [(.int .i64 ((m.turn : Nat) : Int)), (.slice x1 m.writes.length y1)], 72⟩] [] := S45
     refine do_ rfl (.int .i64 ((k : Nat) : Int)) (ex_assign _) ?_
     simp only [pS, pN, pA, pC, pZ]
     refine stStore (i := 0) (v := (.agg #[(.slice xa31 p.name.length xc32), (.slice xa35 p.key.length xc36), (.bool p.gone), (.slice xa40 p.value.length xc41)])) S45 rfl rfl rfl rfl (size_36) (allc4 rfl rfl rfl rfl) (Nat.le_of_ble_eq_true rfl) (fun w46 S47 => ?_)
     simp only [pS, pN, pA, pC, pZ]
     have S47 : St w F w46 F14 [⟨n43, [(.slice xa31 p.name.length xc32), (.slice xa35 p.key.length xc36), (.bool p.gone), (.slice xa40 p.value.length xc41)], 36⟩, ⟨n2, [(.int .i64 ((m.turn : Nat) : Int)), (.slice x1 m.writes.length y1)], 72⟩] [] := S47
     refine wl_nil (hK26 _ _ ?_)
     refine wp_seq_k (fun K48 hK48 => ?_)
     refine wp_seq_k (fun K49 hK49 => region_wl ?_)
     refine do_ rfl (.int .i64 ((k : Nat) : Int)) (ex_move _) ?_
     simp only [pS, pN, pA, pC, pZ]
     by_cases hc28 : k = 10
     ·refine do_ rfl (.bool true) (ex_eql (m := ((k : Nat) : Int)) (n := (10 : Int)) (b := true) rfl rfl (beq_iff_eq.2 (by omega))) ?_
      simp only [pS, pN, pA, pC, pZ]
      refine wl_nil (hK49 _ _ ?_)
      refine wp_cond_true rfl ?_
      refine wp_seq_k (fun K50 hK50 => region_wl ?_)
      refine do_ rfl (.int .i64 1) (ex_assign _) ?_
      simp only [pS, pN, pA, pC, pZ]
      refine wl_nil (hK50 _ _ ?_)
      refine wp_ret ?_
      (try simp only [Exit.then, Exit.inBlock, ↓reduceIte, Nat.reduceEqDiff])
      refine bodyPost_ret (v := (.int .i64 1)) ?_ rfl ?_
      ·exact res_t rfl rfl
      ·exact ⟨by unfold tapeE; rw [if_neg (by omega), if_neg (by omega), hT, chkAt_at hp, if_pos (by omega)], S47.gr.below⟩
     ·refine do_ rfl (.bool false) (ex_eql (m := ((k : Nat) : Int)) (n := (10 : Int)) (b := false) rfl rfl (beq_eq_false_iff_ne.2 (by omega))) ?_
      simp only [pS, pN, pA, pC, pZ]
      refine wl_nil (hK49 _ _ ?_)
      refine wp_cond_false rfl ?_
      refine wp_skip ?_
      refine hK48 _ _ ?_
      refine wp_seq_k (fun K51 hK51 => region_wl ?_)
      refine do_ rfl (.agg #[(.slice xa31 p.name.length xc32), (.slice xa35 p.key.length xc36), (.bool p.gone), (.slice xa40 p.value.length xc41)]) (ex_load rfl (loadN (cs := [(.slice xa31 p.name.length xc32), (.slice xa35 p.key.length xc36), (.bool p.gone), (.slice xa40 p.value.length xc41)]) Tryd.underlying36 rfl (size_36) (St.range S47 (i := 0) rfl 0 [(.slice xa31 p.name.length xc32), (.slice xa35 p.key.length xc36), (.bool p.gone), (.slice xa40 p.value.length xc41)] (sub_range 0 rfl)))) ?_
      simp only [pS, pN, pA, pC, pZ]
      refine stNew S47 (v := fun n => .slice (some ⟨n, 0, none⟩) 1 1) rfl (ex_lit (ps := #[(0, (.agg #[(.slice xa31 p.name.length xc32), (.slice xa35 p.key.length xc36), (.bool p.gone), (.slice xa40 p.value.length xc41)]))]) (cells := #[(.slice xa31 p.name.length xc32), (.slice xa35 p.key.length xc36), (.bool p.gone), (.slice xa40 p.value.length xc41)]) (E := 36) (bmap1 rfl) (fun w => by kernel_rfl)) (fun n52 w53 S54 => ?_)
      simp only [pS, pN, pA, pC, pZ]
      have S54 : St w F w53 F14 [⟨n52, [(.slice xa31 p.name.length xc32), (.slice xa35 p.key.length xc36), (.bool p.gone), (.slice xa40 p.value.length xc41)], 36⟩, ⟨n43, [(.slice xa31 p.name.length xc32), (.slice xa35 p.key.length xc36), (.bool p.gone), (.slice xa40 p.value.length xc41)], 36⟩, ⟨n2, [(.int .i64 ((m.turn : Nat) : Int)), (.slice x1 m.writes.length y1)], 72⟩] [] := S54
      obtain ⟨S55, le56, hc57⟩ := St.freezeBlk S54 (i := 0) rfl
      have r59 : Wrs _ (.slice (some ⟨n52, 0, none⟩) 1 1) [p] := sl_of_block (R := WrC) (l := [p]) (el := [[(.slice xa31 p.name.length xc32), (.slice xa35 p.key.length xc36), (.bool p.gone), (.slice xa40 p.value.length xc41)]]) hc57 rfl ⟨⟨_, _, _, _, rfl, (r33.mono le56), (r37.mono le56), rfl, (r42.mono le56)⟩, trivial⟩ (by simp) (by unfold maxLen; simp)
      generalize addF F14 w53 n52 = F58 at *
      have S55 : St w F w53 F58 [⟨n43, [(.slice xa31 p.name.length xc32), (.slice xa35 p.key.length xc36), (.bool p.gone), (.slice xa40 p.value.length xc41)], 36⟩, ⟨n2, [(.int .i64 ((m.turn : Nat) : Int)), (.slice x1 m.writes.length y1)], 72⟩] [] := S55
      refine stGives S55 rfl (ex_fn (vs := #[(.slice none 0 0), (.slice (some ⟨n52, 0, none⟩) 1 1)]) (map2 rfl rfl) rfl (ent_16 _ _)) (apply_spec _ _ _ _ [] [p] (S55).sat (Sl.nil _ _ _) r59 (ForestOk.nil 60) (fun q hq => by rw [List.mem_singleton.1 hq]; exact hpb)) ?_
      intro v65 w60 F62 S61 le63 R64
      obtain ⟨_, rfl, r68⟩ := R64
      obtain ⟨a66, c67, rfl, _⟩ := Sl.shape r68
      have hee := applyE_none p
      simp only [pS, pN, pA, pC, pZ]
      refine do_ rfl (.tuple #[(.slice a66 (applyE [] [p]).2.length c67), (.int .i64 (applyE [] [p]).1)]) (ex_move _) ?_
      simp only [pS, pN, pA, pC, pZ]
      refine do_ rfl (.slice a66 (applyE [] [p]).2.length c67) (ex_extract rfl rfl) ?_
      simp only [pS, pN, pA, pC, pZ]
      refine do_ rfl (.int .i64 (applyE [] [p]).1) (ex_extract rfl rfl) ?_
      simp only [pS, pN, pA, pC, pZ]
      refine do_ rfl (.slice a66 (applyE [] [p]).2.length c67) (ex_assign _) ?_
      simp only [pS, pN, pA, pC, pZ]
      refine do_ rfl (.int .i64 (applyE [] [p]).1) (ex_assign _) ?_
      simp only [pS, pN, pA, pC, pZ]
      refine wl_nil (hK51 _ _ ?_)
      refine wp_seq_k (fun K69 hK69 => region_wl ?_)
      refine do_ rfl (.int .i64 (applyE [] [p]).1) (ex_move _) ?_
      simp only [pS, pN, pA, pC, pZ]
      by_cases hc36 : (applyE [] [p]).1 = (0 : Int)
      ·refine do_ rfl (.bool false) (ex_neq (m := (applyE [] [p]).1) (n := (0 : Int)) (b := false) rfl rfl (bne_eq_false_iff_eq.2 (by omega))) ?_
       simp only [pS, pN, pA, pC, pZ]
       refine wl_nil (hK69 _ _ ?_)
       refine wp_cond_false rfl ?_
       refine wp_skip ?_
       refine hK25 _ _ ?_
       refine region_wl ?_
       refine do_ rfl (.int .i64 (((k + 1) : Nat) : Int)) (ex_add (m := ((k : Nat) : Int)) (n := (1 : Int)) (r := (((k + 1) : Nat) : Int)) rfl rfl (by omega) (by omega) (by omega)) ?_
       simp only [pS, pN, pA, pC, pZ]
       refine do_ rfl (.int .i64 (((k + 1) : Nat) : Int)) (ex_move _) ?_
       simp only [pS, pN, pA, pC, pZ]
       refine wl_nil ?_
       have S61 := St.drop S61 (L' := [⟨n2, [(.int .i64 ((m.turn : Nat) : Int)), (.slice x1 m.writes.length y1)], 72⟩]) (.cons _ (List.Sublist.refl _))
       exact hK22 _ _ _ (by omega) ⟨(k + 1), F62, _, rfl, rfl, rfl, S61, ((le21.trans le56).trans le63), (by omega), (by rw [hT, chkAt_at hp, if_neg (by omega), if_neg (by omega)])⟩
      ·refine do_ rfl (.bool true) (ex_neq (m := (applyE [] [p]).1) (n := (0 : Int)) (b := true) rfl rfl (bne_iff_ne.2 (by omega))) ?_
       simp only [pS, pN, pA, pC, pZ]
       refine wl_nil (hK69 _ _ ?_)
       refine wp_cond_true rfl ?_
       refine wp_seq_k (fun K70 hK70 => region_wl ?_)
       refine do_ rfl (.int .i64 (applyE [] [p]).1) (ex_move _) ?_
       simp only [pS, pN, pA, pC, pZ]
       refine do_ rfl (.int .i64 (applyE [] [p]).1) (ex_assign _) ?_
       simp only [pS, pN, pA, pC, pZ]
       refine wl_nil (hK70 _ _ ?_)
       refine wp_ret ?_
       (try simp only [Exit.then, Exit.inBlock, ↓reduceIte, Nat.reduceEqDiff])
       refine bodyPost_ret (v := (.int .i64 (applyE [] [p]).1)) ?_ rfl ?_
       ·exact res_t rfl rfl
       ·exact ⟨by unfold tapeE; rw [if_neg (by omega), if_neg (by omega), hT, chkAt_at hp, if_neg (by omega), if_pos (by omega), hee], S61.gr.below⟩
    ·refine do_ rfl (.bool false) (ex_lss (m := ((k : Nat) : Int)) (n := ((m.writes.length : Nat) : Int)) (b := false) rfl rfl (decide_eq_false (by omega))) ?_
     simp only [pS, pN, pA, pC, pZ]
     refine wl_nil (hK23 _ _ ?_)
     refine wp_seq_k (fun K71 hK71 => ?_)
     refine wp_cond_false rfl ?_
     refine wp_exit ?_
     refine hK12 _ _ ?_
     refine wp_seq_k (fun K72 hK72 => region_wl ?_)
     refine do_ rfl (.int .i64 0) (ex_assign _) ?_
     simp only [pS, pN, pA, pC, pZ]
     refine wl_nil (hK72 _ _ ?_)
     refine wp_ret ?_
     (try simp only [Exit.then, Exit.inBlock, ↓reduceIte, Nat.reduceEqDiff])
     refine bodyPost_ret (v := (.int .i64 0)) ?_ rfl ?_
     ·exact res_t rfl rfl
     ·exact ⟨by unfold tapeE; rw [if_neg (by omega), if_neg (by omega), hT, chkAt_end (by omega)], S20.gr.below⟩
set_option maxHeartbeats 8000000 in
theorem decode_spec (F : Fz) (w : World) (v : Value) (b : By) (hs : Sat w F) (hb : Bs F v b) (hl : b.length ≤ 4000) :
    Calls Tryd.prog 61 #[v] w (Gives w F (DecR (decC b) (decE b))) := by
 obtain ⟨x, y, rfl, hc1, hc2⟩ := hb.shape
 unfold maxLen at hc2
 have hl0 : (⟨b, false⟩ : Rr).rest.length ≤ 4000 := hl
 obtain ⟨i36, hi36, hz36, hs36, hb36⟩ := info_parts info_36
 have S := St.start hs
 go_enter Tryd.func61, Tryd.ntmps61
 refine wp_seq_k (fun K1 hK1 => region_wl ?_)
 refine stNew S (v := fun n => .pointer (some ⟨n, 0, none⟩)) rfl (ex_alloc (zero_72 _)) (fun n2 w3 S4 => ?_)
 simp only [pS, pN, pA, pC, pZ]
 have S4 : St w F w3 F [⟨n2, [(.int .i64 0), (.slice none 0 0)], 72⟩] [] := S4
 refine do_ rfl (.int .i64 0) (ex_assign _) ?_
 simp only [pS, pN, pA, pC, pZ]
 refine wl_nil (hK1 _ _ ?_)
 refine wp_seq_k (fun K5 hK5 => ?_)
 refine wp_seq_k (fun K6 hK6 => region_wl ?_)
 refine do_ rfl (.slice x b.length y) (ex_move _) ?_
 simp only [pS, pN, pA, pC, pZ]
 refine do_ rfl (.int .i64 ((b.length : Nat) : Int)) (ex_len Tryd.underlying23 rfl) ?_
 simp only [pS, pN, pA, pC, pZ]
 refine do_ rfl (.bool false) (ex_gtr (m := ((b.length : Nat) : Int)) (n := (4000 : Int)) (b := false) rfl rfl (decide_eq_false (by omega))) ?_
 simp only [pS, pN, pA, pC, pZ]
 refine wl_nil (hK6 _ _ ?_)
 refine wp_cond_false rfl ?_
 refine wp_skip ?_
 refine hK5 _ _ ?_
 refine wp_seq_k (fun K7 hK7 => region_wl ?_)
 refine do_ rfl (.slice x b.length y) (ex_move _) ?_
 simp only [pS, pN, pA, pC, pZ]
 refine do_ rfl (.agg #[(.slice x b.length y), (.bool false)]) (ex_build (ps := #[(0, (.slice x b.length y))]) (bmap1 rfl) (by kernel_rfl)) ?_
 simp only [pS, pN, pA, pC, pZ]
 refine stNew S4 (v := fun n => .pointer (some ⟨n, 0, none⟩)) rfl (ex_box (v := (.agg #[(.slice x b.length y), (.bool false)])) rfl) (fun n8 w9 S10 => ?_)
 simp only [pS, pN, pA, pC, pZ]
 have S10 : St w F w9 F [⟨n8, [(.slice x b.length y), (.bool false)], 136⟩, ⟨n2, [(.int .i64 0), (.slice none 0 0)], 72⟩] [] := S10
 refine do_ rfl (.pointer (some ⟨n8, 0, none⟩)) (ex_assign _) ?_
 simp only [pS, pN, pA, pC, pZ]
 refine wl_nil (hK7 _ _ ?_)
 refine wp_seq_k (fun K11 hK11 => region_wl ?_)
 refine do_ rfl (.pointer (some ⟨n8, 0, none⟩)) (ex_move _) ?_
 simp only [pS, pN, pA, pC, pZ]
 have S12 := St.front S10 (i := 0) rfl
 have S12 : St w F w9 F [⟨n8, [(.slice x b.length y), (.bool false)], 136⟩, ⟨n2, [(.int .i64 0), (.slice none 0 0)], 72⟩] [] := S12
 refine stByte rfl (ex_fn (vs := #[(.pointer (some ⟨n8, 0, none⟩))]) (map1 rfl) rfl (ent_84 _ _)) (byte_spec (r := (⟨b, false⟩ : Rr)) S12 hb (by omega)) ?_
 intro a13 c14 w15 F16 le17 S18 r19
 have hltX20 := byteR_lt (⟨b, false⟩ : Rr)
 have hleX20 := byteR_less (⟨b, false⟩ : Rr)
 generalize hX20 : byteR (⟨b, false⟩ : Rr) = X20 at *
 simp only [pS, pN, pA, pC, pZ]
 refine do_ rfl (.int .i64 (((X20.1 * 65536) : Nat) : Int)) (ex_shlN (m := X20.1) (n := 16) (r := X20.1 * 65536) rfl rfl (by decide) rfl (by omega)) ?_
 simp only [pS, pN, pA, pC, pZ]
 refine do_ rfl (.pointer (some ⟨n8, 0, none⟩)) (ex_move _) ?_
 simp only [pS, pN, pA, pC, pZ]
 have S21 := St.front S18 (i := 0) rfl
 have S21 : St w F w15 F16 [⟨n8, [(.slice a13 X20.2.rest.length c14), (.bool X20.2.short)], 136⟩, ⟨n2, [(.int .i64 0), (.slice none 0 0)], 72⟩] [] := S21
 refine stByte rfl (ex_fn (vs := #[(.pointer (some ⟨n8, 0, none⟩))]) (map1 rfl) rfl (ent_84 _ _)) (byte_spec (r := X20.2) S21 r19 (by omega)) ?_
 intro a22 c23 w24 F25 le26 S27 r28
 have hltX29 := byteR_lt X20.2
 have hleX29 := byteR_less X20.2
 generalize hX29 : byteR X20.2 = X29 at *
 simp only [pS, pN, pA, pC, pZ]
 refine do_ rfl (.int .i64 (((X29.1 * 256) : Nat) : Int)) (ex_shlN (m := X29.1) (n := 8) (r := X29.1 * 256) rfl rfl (by decide) rfl (by omega)) ?_
 simp only [pS, pN, pA, pC, pZ]
 refine do_ rfl (.int .i64 ((((X20.1 * 65536) + (X29.1 * 256)) : Nat) : Int)) (ex_orN (m := (X20.1 * 65536)) (n := (X29.1 * 256)) (r := (X20.1 * 65536) + (X29.1 * 256)) rfl rfl (by omega) (by omega) (or16 _ _ (by omega))) ?_
 simp only [pS, pN, pA, pC, pZ]
 refine do_ rfl (.pointer (some ⟨n8, 0, none⟩)) (ex_move _) ?_
 simp only [pS, pN, pA, pC, pZ]
 have S30 := St.front S27 (i := 0) rfl
 have S30 : St w F w24 F25 [⟨n8, [(.slice a22 X29.2.rest.length c23), (.bool X29.2.short)], 136⟩, ⟨n2, [(.int .i64 0), (.slice none 0 0)], 72⟩] [] := S30
 refine stByte rfl (ex_fn (vs := #[(.pointer (some ⟨n8, 0, none⟩))]) (map1 rfl) rfl (ent_84 _ _)) (byte_spec (r := X29.2) S30 r28 (by omega)) ?_
 intro a31 c32 w33 F34 le35 S36 r37
 have hltX38 := byteR_lt X29.2
 have hleX38 := byteR_less X29.2
 generalize hX38 : byteR X29.2 = X38 at *
 simp only [pS, pN, pA, pC, pZ]
 refine do_ rfl (.int .i64 (((((X20.1 * 65536) + (X29.1 * 256)) + X38.1) : Nat) : Int)) (ex_orN (m := ((X20.1 * 65536) + (X29.1 * 256))) (n := X38.1) (r := ((X20.1 * 65536) + (X29.1 * 256)) + X38.1) rfl rfl (by omega) (by omega) (or8 _ _ _ (by omega))) ?_
 simp only [pS, pN, pA, pC, pZ]
 refine do_ rfl (.agg #[(.int .i64 (((((X20.1 * 65536) + (X29.1 * 256)) + X38.1) : Nat) : Int)), (.slice none 0 0)]) (ex_build (ps := #[(0, (.int .i64 (((((X20.1 * 65536) + (X29.1 * 256)) + X38.1) : Nat) : Int)))]) (bmap1 rfl) (by kernel_rfl)) ?_
 simp only [pS, pN, pA, pC, pZ]
 refine stNew S36 (v := fun n => .pointer (some ⟨n, 0, none⟩)) rfl (ex_alloc (zero_72 _)) (fun n39 w40 S41 => ?_)
 simp only [pS, pN, pA, pC, pZ]
 have S41 : St w F w40 F34 [⟨n39, [(.int .i64 0), (.slice none 0 0)], 72⟩, ⟨n8, [(.slice a31 X38.2.rest.length c32), (.bool X38.2.short)], 136⟩, ⟨n2, [(.int .i64 0), (.slice none 0 0)], 72⟩] [] := S41
 refine stStore (i := 0) (v := (.agg #[(.int .i64 (((((X20.1 * 65536) + (X29.1 * 256)) + X38.1) : Nat) : Int)), (.slice none 0 0)])) S41 rfl rfl rfl rfl (size_72) (allc2 rfl rfl) (Nat.le_of_ble_eq_true rfl) (fun w42 S43 => ?_)
 simp only [pS, pN, pA, pC, pZ]
 have S43 : St w F w42 F34 [⟨n39, [(.int .i64 (((((X20.1 * 65536) + (X29.1 * 256)) + X38.1) : Nat) : Int)), (.slice none 0 0)], 72⟩, ⟨n8, [(.slice a31 X38.2.rest.length c32), (.bool X38.2.short)], 136⟩, ⟨n2, [(.int .i64 0), (.slice none 0 0)], 72⟩] [] := S43
 refine wl_nil (hK11 _ _ ?_)
 refine wp_seq_k (fun K44 hK44 => ?_)
 refine wp_seq_k (fun K45 hK45 => region_wl ?_)
 refine do_ rfl (.pointer (some ⟨n8, 0, none⟩)) (ex_move _) ?_
 simp only [pS, pN, pA, pC, pZ]
 have S46 := St.front S43 (i := 1) rfl
 have S46 : St w F w42 F34 [⟨n8, [(.slice a31 X38.2.rest.length c32), (.bool X38.2.short)], 136⟩, ⟨n39, [(.int .i64 (((((X20.1 * 65536) + (X29.1 * 256)) + X38.1) : Nat) : Int)), (.slice none 0 0)], 72⟩, ⟨n2, [(.int .i64 0), (.slice none 0 0)], 72⟩] [] := S46
 refine stByte rfl (ex_fn (vs := #[(.pointer (some ⟨n8, 0, none⟩))]) (map1 rfl) rfl (ent_84 _ _)) (byte_spec (r := X38.2) S46 r37 (by omega)) ?_
 intro a47 c48 w49 F50 le51 S52 r53
 have hltX54 := byteR_lt X38.2
 have hleX54 := byteR_less X38.2
 generalize hX54 : byteR X38.2 = X54 at *
 simp only [pS, pN, pA, pC, pZ]
 refine do_ rfl (.int .i64 0) (ex_move _) ?_
 simp only [pS, pN, pA, pC, pZ]
 refine wl_nil (hK45 _ _ ?_)
 refine wp_block ?_
 have S55 := St.addNil S52 4 WrC WrC.mono 36 w.heap.size
 refine wp_loop_g (fun mm aa w58 => ∃ (k : Nat) (rk : Rr) (acc : List Wr) (v : Value) (ra : Option Addr) (rc : Nat) (F56 : Fz) (u57 : Nat → Value), mm = X54.1 - k ∧ u57 = slots aa ∧ aa = ⟨#[(.slice x b.length y), undef, (.pointer (some ⟨n2, 0, none⟩)), (.int .i64 0), (.pointer (some ⟨n8, 0, none⟩)), (.pointer (some ⟨n39, 0, none⟩)), (u57 6), (u57 7), undef, (.slice x b.length y), (.int .i64 ((b.length : Nat) : Int)), (.bool false), undef, (.slice x b.length y), (.agg #[(.slice x b.length y), (.bool false)]), (.pointer (some ⟨n8, 0, none⟩)), (.pointer (some ⟨n8, 0, none⟩)), (.int .i64 ((X20.1 : Nat) : Int)), (.int .i64 (((X20.1 * 65536) : Nat) : Int)), (.pointer (some ⟨n8, 0, none⟩)), (.int .i64 ((X29.1 : Nat) : Int)), (.int .i64 (((X29.1 * 256) : Nat) : Int)), (.int .i64 ((((X20.1 * 65536) + (X29.1 * 256)) : Nat) : Int)), (.pointer (some ⟨n8, 0, none⟩)), (.int .i64 ((X38.1 : Nat) : Int)), (.int .i64 (((((X20.1 * 65536) + (X29.1 * 256)) + X38.1) : Nat) : Int)), (.agg #[(.int .i64 (((((X20.1 * 65536) + (X29.1 * 256)) + X38.1) : Nat) : Int)), (.slice none 0 0)]), (.pointer (some ⟨n8, 0, none⟩)), (.int .i64 ((X54.1 : Nat) : Int)), (.int .i64 ((k : Nat) : Int)), (u57 30), (u57 31), (u57 32), (u57 33), (u57 34), (u57 35), (u57 36), (u57 37), (u57 38), (u57 39), (u57 40), (u57 41), (u57 42), (u57 43), (u57 44), (u57 45), (u57 46), (u57 47), (u57 48), (u57 49), (u57 50), (u57 51), (u57 52), (u57 53), (u57 54), (u57 55), (u57 56), undef, undef, undef, undef, undef, undef, undef, undef, undef, undef, undef, undef, undef, undef, undef, undef, undef, undef, undef, undef, undef, undef], []⟩ ∧ St w F w58 F56 [⟨n8, [(.slice ra rk.rest.length rc), (.bool rk.short)], 136⟩, ⟨n39, [(.int .i64 (((((X20.1 * 65536) + (X29.1 * 256)) + X38.1) : Nat) : Int)), v], 72⟩, ⟨n2, [(.int .i64 0), (.slice none 0 0)], 72⟩] [ownP 4 WrC WrC.mono 36 w.heap.size v acc] ∧ Le F50 F56 ∧ (k ≤ X54.1) ∧ (Bs F56 (.slice ra rk.rest.length rc) rk.rest) ∧ (rk.rest.length ≤ 4000) ∧ (wrsR X54.1 X54.2 = (acc ++ (wrsR (X54.1 - k) rk).1, (wrsR (X54.1 - k) rk).2)) ∧ (acc.length = k) ∧ (∀ z ∈ acc, Small z)) _ ⟨0, X54.2, [], (.slice none 0 0), a47, c48, F50, _, rfl, rfl, rfl, S55, Le.refl _, (by omega), r53, (by omega), (by simp), rfl, (by simp)⟩ ?_
 rintro m59 a60 w61 ⟨k, rk, acc, v, ra, rc, F56, u57, rfl, -, rfl, S62, le63, hk, hrk, hrl, hinv, hal, hsm⟩ K64 hK64
 refine wp_seq_k (fun K65 hK65 => region_wl ?_)
 by_cases hc30 : k < X54.1
 ·refine do_ rfl (.bool true) (ex_lss (m := ((k : Nat) : Int)) (n := ((X54.1 : Nat) : Int)) (b := true) rfl rfl (decide_eq_true (by omega))) ?_
  simp only [pS, pN, pA, pC, pZ]
  refine wl_nil (hK65 _ _ ?_)
  refine wp_seq_k (fun K66 hK66 => ?_)
  refine wp_cond_true rfl ?_
  refine wp_skip ?_
  refine hK66 _ _ ?_
  refine wp_seq_k (fun K67 hK67 => ?_)
  refine wp_block ?_
  refine wp_seq_k (fun K68 hK68 => region_wl ?_)
  refine do_ rfl (.pointer (some ⟨n8, 0, none⟩)) (ex_move _) ?_
  simp only [pS, pN, pA, pC, pZ]
  refine do_ rfl (.pointer (some ⟨n8, 0, none⟩)) (ex_move _) ?_
  simp only [pS, pN, pA, pC, pZ]
  have S69 := St.front S62 (i := 0) rfl
  have S69 : St w F w61 F56 [⟨n8, [(.slice ra rk.rest.length rc), (.bool rk.short)], 136⟩, ⟨n39, [(.int .i64 (((((X20.1 * 65536) + (X29.1 * 256)) + X38.1) : Nat) : Int)), v], 72⟩, ⟨n2, [(.int .i64 0), (.slice none 0 0)], 72⟩] [ownP 4 WrC WrC.mono 36 w.heap.size v acc] := S69
  refine stByte rfl (ex_fn (vs := #[(.pointer (some ⟨n8, 0, none⟩))]) (map1 rfl) rfl (ent_84 _ _)) (byte_spec (r := rk) S69 hrk (by omega)) ?_
  intro a70 c71 w72 F73 le74 S75 r76
  have hltX77 := byteR_lt rk
  have hleX77 := byteR_less rk
  generalize hX77 : byteR rk = X77 at *
  simp only [pS, pN, pA, pC, pZ]
  have S78 := St.front S75 (i := 0) rfl
  have S78 : St w F w72 F73 [⟨n8, [(.slice a70 X77.2.rest.length c71), (.bool X77.2.short)], 136⟩, ⟨n39, [(.int .i64 (((((X20.1 * 65536) + (X29.1 * 256)) + X38.1) : Nat) : Int)), v], 72⟩, ⟨n2, [(.int .i64 0), (.slice none 0 0)], 72⟩] [ownP 4 WrC WrC.mono 36 w.heap.size v acc] := S78
  refine stTake rfl (ex_fn (vs := #[(.pointer (some ⟨n8, 0, none⟩)), (.int .i64 ((X77.1 : Nat) : Int))]) (map2 rfl rfl) rfl (ent_85 _ _)) (take_spec (r := X77.2) (n := X77.1) S78 r76 (by omega) (by omega)) ?_
  intro v79 a80 c81 w82 F83 le84 S85 r86 r87
  have hlnX88 := takeR_len X77.1 X77.2
  have hleX88 := takeR_less X77.1 X77.2
  generalize hX88 : takeR X77.1 X77.2 = X88 at *
  obtain ⟨xa89, xc90, rfl, _⟩ := r87.shape
  simp only [pS, pN, pA, pC, pZ]
  refine do_ rfl (.agg #[(.slice xa89 X88.1.length xc90), (.slice none 0 0), (.bool false), (.slice none 0 0)]) (ex_build (ps := #[(0, (.slice xa89 X88.1.length xc90))]) (bmap1 rfl) (by kernel_rfl)) ?_
  simp only [pS, pN, pA, pC, pZ]
  refine stNew S85 (v := fun n => .pointer (some ⟨n, 0, none⟩)) rfl (ex_alloc (zero_36 _)) (fun n91 w92 S93 => ?_)
  simp only [pS, pN, pA, pC, pZ]
  have S93 : St w F w92 F83 [⟨n91, [(.slice none 0 0), (.slice none 0 0), (.bool false), (.slice none 0 0)], 36⟩, ⟨n8, [(.slice a80 X88.2.rest.length c81), (.bool X88.2.short)], 136⟩, ⟨n39, [(.int .i64 (((((X20.1 * 65536) + (X29.1 * 256)) + X38.1) : Nat) : Int)), v], 72⟩, ⟨n2, [(.int .i64 0), (.slice none 0 0)], 72⟩] [ownP 4 WrC WrC.mono 36 w.heap.size v acc] := S93
  refine stStore (i := 0) (v := (.agg #[(.slice xa89 X88.1.length xc90), (.slice none 0 0), (.bool false), (.slice none 0 0)])) S93 rfl rfl rfl rfl (size_36) (allc4 rfl rfl rfl rfl) (Nat.le_of_ble_eq_true rfl) (fun w94 S95 => ?_)
  simp only [pS, pN, pA, pC, pZ]
  have S95 : St w F w94 F83 [⟨n91, [(.slice xa89 X88.1.length xc90), (.slice none 0 0), (.bool false), (.slice none 0 0)], 36⟩, ⟨n8, [(.slice a80 X88.2.rest.length c81), (.bool X88.2.short)], 136⟩, ⟨n39, [(.int .i64 (((((X20.1 * 65536) + (X29.1 * 256)) + X38.1) : Nat) : Int)), v], 72⟩, ⟨n2, [(.int .i64 0), (.slice none 0 0)], 72⟩] [ownP 4 WrC WrC.mono 36 w.heap.size v acc] := S95
  refine wl_nil (hK68 _ _ ?_)
  refine wp_seq_k (fun K96 hK96 => region_wl ?_)
  refine do_ rfl (.pointer (some ⟨n8, 0, none⟩)) (ex_move _) ?_
  simp only [pS, pN, pA, pC, pZ]
  refine do_ rfl (.pointer (some ⟨n8, 0, none⟩)) (ex_move _) ?_
  simp only [pS, pN, pA, pC, pZ]
  have S97 := St.front S95 (i := 1) rfl
  have S97 : St w F w94 F83 [⟨n8, [(.slice a80 X88.2.rest.length c81), (.bool X88.2.short)], 136⟩, ⟨n91, [(.slice xa89 X88.1.length xc90), (.slice none 0 0), (.bool false), (.slice none 0 0)], 36⟩, ⟨n39, [(.int .i64 (((((X20.1 * 65536) + (X29.1 * 256)) + X38.1) : Nat) : Int)), v], 72⟩, ⟨n2, [(.int .i64 0), (.slice none 0 0)], 72⟩] [ownP 4 WrC WrC.mono 36 w.heap.size v acc] := S97
  refine stByte rfl (ex_fn (vs := #[(.pointer (some ⟨n8, 0, none⟩))]) (map1 rfl) rfl (ent_84 _ _)) (byte_spec (r := X88.2) S97 r86 (by omega)) ?_
  intro a98 c99 w100 F101 le102 S103 r104
  have hltX105 := byteR_lt X88.2
  have hleX105 := byteR_less X88.2
  generalize hX105 : byteR X88.2 = X105 at *
  simp only [pS, pN, pA, pC, pZ]
  have S106 := St.front S103 (i := 0) rfl
  have S106 : St w F w100 F101 [⟨n8, [(.slice a98 X105.2.rest.length c99), (.bool X105.2.short)], 136⟩, ⟨n91, [(.slice xa89 X88.1.length xc90), (.slice none 0 0), (.bool false), (.slice none 0 0)], 36⟩, ⟨n39, [(.int .i64 (((((X20.1 * 65536) + (X29.1 * 256)) + X38.1) : Nat) : Int)), v], 72⟩, ⟨n2, [(.int .i64 0), (.slice none 0 0)], 72⟩] [ownP 4 WrC WrC.mono 36 w.heap.size v acc] := S106
  refine stTake rfl (ex_fn (vs := #[(.pointer (some ⟨n8, 0, none⟩)), (.int .i64 ((X105.1 : Nat) : Int))]) (map2 rfl rfl) rfl (ent_85 _ _)) (take_spec (r := X105.2) (n := X105.1) S106 r104 (by omega) (by omega)) ?_
  intro v107 a108 c109 w110 F111 le112 S113 r114 r115
  have hlnX116 := takeR_len X105.1 X105.2
  have hleX116 := takeR_less X105.1 X105.2
  generalize hX116 : takeR X105.1 X105.2 = X116 at *
  obtain ⟨xa117, xc118, rfl, _⟩ := r115.shape
  simp only [pS, pN, pA, pC, pZ]
  refine do_ rfl (.pointer (some ⟨n91, 1, none⟩)) (ex_field (q := ⟨n91, 1, none⟩) rfl (fa_36_1 _ _)) ?_
  simp only [pS, pN, pA, pC, pZ]
  refine stStore (i := 1) (v := (.slice xa117 X116.1.length xc118)) S113 rfl rfl rfl rfl (size_23) (allc1 rfl) (Nat.le_of_ble_eq_true rfl) (fun w119 S120 => ?_)
  simp only [pS, pN, pA, pC, pZ]
  have S120 : St w F w119 F111 [⟨n8, [(.slice a108 X116.2.rest.length c109), (.bool X116.2.short)], 136⟩, ⟨n91, [(.slice xa89 X88.1.length xc90), (.slice xa117 X116.1.length xc118), (.bool false), (.slice none 0 0)], 36⟩, ⟨n39, [(.int .i64 (((((X20.1 * 65536) + (X29.1 * 256)) + X38.1) : Nat) : Int)), v], 72⟩, ⟨n2, [(.int .i64 0), (.slice none 0 0)], 72⟩] [ownP 4 WrC WrC.mono 36 w.heap.size v acc] := S120
  refine wl_nil (hK96 _ _ ?_)
  refine wp_seq_k (fun K121 hK121 => ?_)
  refine wp_seq_k (fun K122 hK122 => region_wl ?_)
  refine do_ rfl (.pointer (some ⟨n8, 0, none⟩)) (ex_move _) ?_
  simp only [pS, pN, pA, pC, pZ]
  have S123 := St.front S120 (i := 0) rfl
  have S123 : St w F w119 F111 [⟨n8, [(.slice a108 X116.2.rest.length c109), (.bool X116.2.short)], 136⟩, ⟨n91, [(.slice xa89 X88.1.length xc90), (.slice xa117 X116.1.length xc118), (.bool false), (.slice none 0 0)], 36⟩, ⟨n39, [(.int .i64 (((((X20.1 * 65536) + (X29.1 * 256)) + X38.1) : Nat) : Int)), v], 72⟩, ⟨n2, [(.int .i64 0), (.slice none 0 0)], 72⟩] [ownP 4 WrC WrC.mono 36 w.heap.size v acc] := S123
  refine stByte rfl (ex_fn (vs := #[(.pointer (some ⟨n8, 0, none⟩))]) (map1 rfl) rfl (ent_84 _ _)) (byte_spec (r := X116.2) S123 r114 (by omega)) ?_
  intro a124 c125 w126 F127 le128 S129 r130
  have hltX131 := byteR_lt X116.2
  have hleX131 := byteR_less X116.2
  generalize hX131 : byteR X116.2 = X131 at *
  simp only [pS, pN, pA, pC, pZ]
  refine do_ rfl (.int .i64 ((X131.1 : Nat) : Int)) (ex_assign _) ?_
  simp only [pS, pN, pA, pC, pZ]
  refine wl_nil (hK122 _ _ ?_)
  refine wp_seq_k (fun K132 hK132 => region_wl ?_)
  refine do_ rfl (.int .i64 ((X131.1 : Nat) : Int)) (ex_move _) ?_
  simp only [pS, pN, pA, pC, pZ]
  by_cases hc44 : X131.1 = 255
  ·refine do_ rfl (.bool true) (ex_eql (m := ((X131.1 : Nat) : Int)) (n := (255 : Int)) (b := true) rfl rfl (beq_iff_eq.2 (by omega))) ?_
   simp only [pS, pN, pA, pC, pZ]
   refine wl_nil (hK132 _ _ ?_)
   refine wp_cond_true rfl ?_
   refine region_wl ?_
   refine do_ rfl (.pointer (some ⟨n91, 2, none⟩)) (ex_field (q := ⟨n91, 2, none⟩) rfl (fa_36_2 _ _)) ?_
   simp only [pS, pN, pA, pC, pZ]
   refine stStore (i := 1) (v := (.bool true)) S129 rfl rfl rfl rfl (size_4) (allc1 rfl) (Nat.le_of_ble_eq_true rfl) (fun w133 S134 => ?_)
   simp only [pS, pN, pA, pC, pZ]
   have S134 : St w F w133 F127 [⟨n8, [(.slice a124 X131.2.rest.length c125), (.bool X131.2.short)], 136⟩, ⟨n91, [(.slice xa89 X88.1.length xc90), (.slice xa117 X116.1.length xc118), (.bool true), (.slice none 0 0)], 36⟩, ⟨n39, [(.int .i64 (((((X20.1 * 65536) + (X29.1 * 256)) + X38.1) : Nat) : Int)), v], 72⟩, ⟨n2, [(.int .i64 0), (.slice none 0 0)], 72⟩] [ownP 4 WrC WrC.mono 36 w.heap.size v acc] := S134
   refine wl_nil (hK121 _ _ ?_)
   refine region_wl ?_
   refine do_ rfl (.pointer (some ⟨n39, 1, none⟩)) (ex_field (q := ⟨n39, 1, none⟩) rfl (fa_72_1 _ _)) ?_
   simp only [pS, pN, pA, pC, pZ]
   refine do_ rfl v (ex_load rfl (load1 (nagg_37 _) (St.cell S134 (i := 2) rfl rfl))) ?_
   simp only [pS, pN, pA, pC, pZ]
   refine do_ rfl (.agg #[(.slice xa89 X88.1.length xc90), (.slice xa117 X116.1.length xc118), (.bool true), (.slice none 0 0)]) (ex_load rfl (loadN (cs := [(.slice xa89 X88.1.length xc90), (.slice xa117 X116.1.length xc118), (.bool true), (.slice none 0 0)]) Tryd.underlying36 rfl (size_36) (St.range S134 (i := 1) rfl 0 [(.slice xa89 X88.1.length xc90), (.slice xa117 X116.1.length xc118), (.bool true), (.slice none 0 0)] (sub_range 0 rfl)))) ?_
   simp only [pS, pN, pA, pC, pZ]
   refine stNew S134 (v := fun n => .slice (some ⟨n, 0, none⟩) 1 1) rfl (ex_lit (ps := #[(0, (.agg #[(.slice xa89 X88.1.length xc90), (.slice xa117 X116.1.length xc118), (.bool true), (.slice none 0 0)]))]) (cells := #[(.slice xa89 X88.1.length xc90), (.slice xa117 X116.1.length xc118), (.bool true), (.slice none 0 0)]) (E := 36) (bmap1 rfl) (fun w => by kernel_rfl)) (fun n135 w136 S137 => ?_)
   simp only [pS, pN, pA, pC, pZ]
   have S137 : St w F w136 F127 [⟨n135, [(.slice xa89 X88.1.length xc90), (.slice xa117 X116.1.length xc118), (.bool true), (.slice none 0 0)], 36⟩, ⟨n8, [(.slice a124 X131.2.rest.length c125), (.bool X131.2.short)], 136⟩, ⟨n91, [(.slice xa89 X88.1.length xc90), (.slice xa117 X116.1.length xc118), (.bool true), (.slice none 0 0)], 36⟩, ⟨n39, [(.int .i64 (((((X20.1 * 65536) + (X29.1 * 256)) + X38.1) : Nat) : Int)), v], 72⟩, ⟨n2, [(.int .i64 0), (.slice none 0 0)], 72⟩] [ownP 4 WrC WrC.mono 36 w.heap.size v acc] := S137
   refine stPush (i := 0) (r := 0) (p := (⟨X88.1, X116.1, true, []⟩ : Wr)) (cs := [(.slice xa89 X88.1.length xc90), (.slice xa117 X116.1.length xc118), (.bool true), (.slice none 0 0)]) S137 rfl i36 (.agg #[(.slice none 0 0), (.slice none 0 0), (.bool false), (.slice none 0 0)]) 80 Tryd.underlying37 hi36 hz36 hs36 hb36 rfl (by decide) rfl rfl rfl rfl rfl (WrC.oneCell (p := (⟨X88.1, X116.1, true, []⟩ : Wr)) ⟨_, _, _, _, rfl, (r87.mono ((le102.trans le112).trans le128)), (r115.mono le128), rfl, Bs.nil _⟩) (⟨_, _, _, _, rfl, (r87.mono ((le102.trans le112).trans le128)), (r115.mono le128), rfl, Bs.nil _⟩) (Nat.le_refl _) S137.gr.below.size (by unfold maxLen; omega) (by omega) ?_
   intro v138 w139 S140 hn141
   simp only [pS, pN, pA, pC, pZ]
   have S140 := St.drop S140 (L' := [⟨n8, [(.slice a124 X131.2.rest.length c125), (.bool X131.2.short)], 136⟩, ⟨n91, [(.slice xa89 X88.1.length xc90), (.slice xa117 X116.1.length xc118), (.bool true), (.slice none 0 0)], 36⟩, ⟨n39, [(.int .i64 (((((X20.1 * 65536) + (X29.1 * 256)) + X38.1) : Nat) : Int)), v], 72⟩, ⟨n2, [(.int .i64 0), (.slice none 0 0)], 72⟩]) (.cons _ (List.Sublist.refl _))
   have S140 : St w F w139 F127 [⟨n8, [(.slice a124 X131.2.rest.length c125), (.bool X131.2.short)], 136⟩, ⟨n91, [(.slice xa89 X88.1.length xc90), (.slice xa117 X116.1.length xc118), (.bool true), (.slice none 0 0)], 36⟩, ⟨n39, [(.int .i64 (((((X20.1 * 65536) + (X29.1 * 256)) + X38.1) : Nat) : Int)), v], 72⟩, ⟨n2, [(.int .i64 0), (.slice none 0 0)], 72⟩] [ownP 4 WrC WrC.mono 36 w.heap.size v138 (acc ++ [(⟨X88.1, X116.1, true, []⟩ : Wr)])] := S140
   obtain ⟨a142, cap143, rfl, h144, h145⟩ := (S140.own (i := 0) rfl).shape
   unfold maxLen at h145
   refine do_ rfl (.pointer (some ⟨n39, 1, none⟩)) (ex_field (q := ⟨n39, 1, none⟩) rfl (fa_72_1 _ _)) ?_
   simp only [pS, pN, pA, pC, pZ]
   refine stStore (i := 2) (v := (.slice a142 (acc ++ [(⟨X88.1, X116.1, true, []⟩ : Wr)]).length cap143)) S140 rfl rfl rfl rfl (size_37) (allc1 rfl) (Nat.le_of_ble_eq_true rfl) (fun w146 S147 => ?_)
   simp only [pS, pN, pA, pC, pZ]
   have S147 : St w F w146 F127 [⟨n8, [(.slice a124 X131.2.rest.length c125), (.bool X131.2.short)], 136⟩, ⟨n91, [(.slice xa89 X88.1.length xc90), (.slice xa117 X116.1.length xc118), (.bool true), (.slice none 0 0)], 36⟩, ⟨n39, [(.int .i64 (((((X20.1 * 65536) + (X29.1 * 256)) + X38.1) : Nat) : Int)), (.slice a142 (acc ++ [(⟨X88.1, X116.1, true, []⟩ : Wr)]).length cap143)], 72⟩, ⟨n2, [(.int .i64 0), (.slice none 0 0)], 72⟩] [ownP 4 WrC WrC.mono 36 w.heap.size (.slice a142 (acc ++ [(⟨X88.1, X116.1, true, []⟩ : Wr)]).length cap143) (acc ++ [(⟨X88.1, X116.1, true, []⟩ : Wr)])] := S147
   refine wl_nil (hK67 _ _ ?_)
   have S148 := St.front S147 (i := 3) rfl
   have S148 : St w F w146 F127 [⟨n2, [(.int .i64 0), (.slice none 0 0)], 72⟩, ⟨n8, [(.slice a124 X131.2.rest.length c125), (.bool X131.2.short)], 136⟩, ⟨n91, [(.slice xa89 X88.1.length xc90), (.slice xa117 X116.1.length xc118), (.bool true), (.slice none 0 0)], 36⟩, ⟨n39, [(.int .i64 (((((X20.1 * 65536) + (X29.1 * 256)) + X38.1) : Nat) : Int)), (.slice a142 (acc ++ [(⟨X88.1, X116.1, true, []⟩ : Wr)]).length cap143)], 72⟩] [ownP 4 WrC WrC.mono 36 w.heap.size (.slice a142 (acc ++ [(⟨X88.1, X116.1, true, []⟩ : Wr)]).length cap143) (acc ++ [(⟨X88.1, X116.1, true, []⟩ : Wr)])] := S148
   have S149 := St.front S148 (i := 3) rfl
   have S149 : St w F w146 F127 [⟨n39, [(.int .i64 (((((X20.1 * 65536) + (X29.1 * 256)) + X38.1) : Nat) : Int)), (.slice a142 (acc ++ [(⟨X88.1, X116.1, true, []⟩ : Wr)]).length cap143)], 72⟩, ⟨n2, [(.int .i64 0), (.slice none 0 0)], 72⟩, ⟨n8, [(.slice a124 X131.2.rest.length c125), (.bool X131.2.short)], 136⟩, ⟨n91, [(.slice xa89 X88.1.length xc90), (.slice xa117 X116.1.length xc118), (.bool true), (.slice none 0 0)], 36⟩] [ownP 4 WrC WrC.mono 36 w.heap.size (.slice a142 (acc ++ [(⟨X88.1, X116.1, true, []⟩ : Wr)]).length cap143) (acc ++ [(⟨X88.1, X116.1, true, []⟩ : Wr)])] := S149
   have S150 := St.front S149 (i := 2) rfl
   have S150 : St w F w146 F127 [⟨n8, [(.slice a124 X131.2.rest.length c125), (.bool X131.2.short)], 136⟩, ⟨n39, [(.int .i64 (((((X20.1 * 65536) + (X29.1 * 256)) + X38.1) : Nat) : Int)), (.slice a142 (acc ++ [(⟨X88.1, X116.1, true, []⟩ : Wr)]).length cap143)], 72⟩, ⟨n2, [(.int .i64 0), (.slice none 0 0)], 72⟩, ⟨n91, [(.slice xa89 X88.1.length xc90), (.slice xa117 X116.1.length xc118), (.bool true), (.slice none 0 0)], 36⟩] [ownP 4 WrC WrC.mono 36 w.heap.size (.slice a142 (acc ++ [(⟨X88.1, X116.1, true, []⟩ : Wr)]).length cap143) (acc ++ [(⟨X88.1, X116.1, true, []⟩ : Wr)])] := S150
   have S151 := St.front S150 (i := 3) rfl
   have S151 : St w F w146 F127 [⟨n91, [(.slice xa89 X88.1.length xc90), (.slice xa117 X116.1.length xc118), (.bool true), (.slice none 0 0)], 36⟩, ⟨n8, [(.slice a124 X131.2.rest.length c125), (.bool X131.2.short)], 136⟩, ⟨n39, [(.int .i64 (((((X20.1 * 65536) + (X29.1 * 256)) + X38.1) : Nat) : Int)), (.slice a142 (acc ++ [(⟨X88.1, X116.1, true, []⟩ : Wr)]).length cap143)], 72⟩, ⟨n2, [(.int .i64 0), (.slice none 0 0)], 72⟩] [ownP 4 WrC WrC.mono 36 w.heap.size (.slice a142 (acc ++ [(⟨X88.1, X116.1, true, []⟩ : Wr)]).length cap143) (acc ++ [(⟨X88.1, X116.1, true, []⟩ : Wr)])] := S151
   refine region_wl ?_
   refine do_ rfl (.int .i64 (((k + 1) : Nat) : Int)) (ex_add (m := ((k : Nat) : Int)) (n := (1 : Int)) (r := (((k + 1) : Nat) : Int)) rfl rfl (by omega) (by omega) (by omega)) ?_
   simp only [pS, pN, pA, pC, pZ]
   refine do_ rfl (.int .i64 (((k + 1) : Nat) : Int)) (ex_move _) ?_
   simp only [pS, pN, pA, pC, pZ]
   refine wl_nil ?_
   have S151 := St.drop S151 (L' := [⟨n8, [(.slice a124 X131.2.rest.length c125), (.bool X131.2.short)], 136⟩, ⟨n39, [(.int .i64 (((((X20.1 * 65536) + (X29.1 * 256)) + X38.1) : Nat) : Int)), (.slice a142 (acc ++ [(⟨X88.1, X116.1, true, []⟩ : Wr)]).length cap143)], 72⟩, ⟨n2, [(.int .i64 0), (.slice none 0 0)], 72⟩]) (.cons _ (List.Sublist.refl _))
   have hwr : wrR rk = ((⟨X88.1, X116.1, true, []⟩ : Wr), X131.2) := by unfold wrR partR; simp only [hX77, hX88, hX105, hX116, hX131]; rw [if_pos (by omega)]
   exact hK64 _ _ _ (by omega) ⟨(k + 1), X131.2, (acc ++ [(⟨X88.1, X116.1, true, []⟩ : Wr)]), (.slice a142 (acc ++ [(⟨X88.1, X116.1, true, []⟩ : Wr)]).length cap143), a124, c125, F127, _, rfl, rfl, rfl, S151, (((((le63.trans le74).trans le84).trans le102).trans le112).trans le128), (by omega), r130, (by omega), (wrs_step hinv (by omega) hwr), (by simp; omega), (by intro z hz; rcases List.mem_append.1 hz with hz | hz; exact hsm z hz; rw [List.mem_singleton.1 hz]; exact ⟨by show X88.1.length ≤ _; omega, by show X116.1.length ≤ _; omega, by simp⟩)⟩
  ·refine do_ rfl (.bool false) (ex_eql (m := ((X131.1 : Nat) : Int)) (n := (255 : Int)) (b := false) rfl rfl (beq_eq_false_iff_ne.2 (by omega))) ?_
   simp only [pS, pN, pA, pC, pZ]
   refine wl_nil (hK132 _ _ ?_)
   refine wp_cond_false rfl ?_
   refine region_wl ?_
   refine do_ rfl (.pointer (some ⟨n8, 0, none⟩)) (ex_move _) ?_
   simp only [pS, pN, pA, pC, pZ]
   refine do_ rfl (.int .i64 ((X131.1 : Nat) : Int)) (ex_move _) ?_
   simp only [pS, pN, pA, pC, pZ]
   have S152 := St.front S129 (i := 0) rfl
   have S152 : St w F w126 F127 [⟨n8, [(.slice a124 X131.2.rest.length c125), (.bool X131.2.short)], 136⟩, ⟨n91, [(.slice xa89 X88.1.length xc90), (.slice xa117 X116.1.length xc118), (.bool false), (.slice none 0 0)], 36⟩, ⟨n39, [(.int .i64 (((((X20.1 * 65536) + (X29.1 * 256)) + X38.1) : Nat) : Int)), v], 72⟩, ⟨n2, [(.int .i64 0), (.slice none 0 0)], 72⟩] [ownP 4 WrC WrC.mono 36 w.heap.size v acc] := S152
   refine stTake rfl (ex_fn (vs := #[(.pointer (some ⟨n8, 0, none⟩)), (.int .i64 ((X131.1 : Nat) : Int))]) (map2 rfl rfl) rfl (ent_85 _ _)) (take_spec (r := X131.2) (n := X131.1) S152 r130 (by omega) (by omega)) ?_
   intro v153 a154 c155 w156 F157 le158 S159 r160 r161
   have hlnX162 := takeR_len X131.1 X131.2
   have hleX162 := takeR_less X131.1 X131.2
   generalize hX162 : takeR X131.1 X131.2 = X162 at *
   obtain ⟨xa163, xc164, rfl, _⟩ := r161.shape
   simp only [pS, pN, pA, pC, pZ]
   refine do_ rfl (.pointer (some ⟨n91, 3, none⟩)) (ex_field (q := ⟨n91, 3, none⟩) rfl (fa_36_3 _ _)) ?_
   simp only [pS, pN, pA, pC, pZ]
   refine stStore (i := 1) (v := (.slice xa163 X162.1.length xc164)) S159 rfl rfl rfl rfl (size_23) (allc1 rfl) (Nat.le_of_ble_eq_true rfl) (fun w165 S166 => ?_)
   simp only [pS, pN, pA, pC, pZ]
   have S166 : St w F w165 F157 [⟨n8, [(.slice a154 X162.2.rest.length c155), (.bool X162.2.short)], 136⟩, ⟨n91, [(.slice xa89 X88.1.length xc90), (.slice xa117 X116.1.length xc118), (.bool false), (.slice xa163 X162.1.length xc164)], 36⟩, ⟨n39, [(.int .i64 (((((X20.1 * 65536) + (X29.1 * 256)) + X38.1) : Nat) : Int)), v], 72⟩, ⟨n2, [(.int .i64 0), (.slice none 0 0)], 72⟩] [ownP 4 WrC WrC.mono 36 w.heap.size v acc] := S166
   refine wl_nil (hK121 _ _ ?_)
   refine region_wl ?_
   refine do_ rfl (.pointer (some ⟨n39, 1, none⟩)) (ex_field (q := ⟨n39, 1, none⟩) rfl (fa_72_1 _ _)) ?_
   simp only [pS, pN, pA, pC, pZ]
   refine do_ rfl v (ex_load rfl (load1 (nagg_37 _) (St.cell S166 (i := 2) rfl rfl))) ?_
   simp only [pS, pN, pA, pC, pZ]
   refine do_ rfl (.agg #[(.slice xa89 X88.1.length xc90), (.slice xa117 X116.1.length xc118), (.bool false), (.slice xa163 X162.1.length xc164)]) (ex_load rfl (loadN (cs := [(.slice xa89 X88.1.length xc90), (.slice xa117 X116.1.length xc118), (.bool false), (.slice xa163 X162.1.length xc164)]) Tryd.underlying36 rfl (size_36) (St.range S166 (i := 1) rfl 0 [(.slice xa89 X88.1.length xc90), (.slice xa117 X116.1.length xc118), (.bool false), (.slice xa163 X162.1.length xc164)] (sub_range 0 rfl)))) ?_
   simp only [pS, pN, pA, pC, pZ]
   refine stNew S166 (v := fun n => .slice (some ⟨n, 0, none⟩) 1 1) rfl (ex_lit (ps := #[(0, (.agg #[(.slice xa89 X88.1.length xc90), (.slice xa117 X116.1.length xc118), (.bool false), (.slice xa163 X162.1.length xc164)]))]) (cells := #[(.slice xa89 X88.1.length xc90), (.slice xa117 X116.1.length xc118), (.bool false), (.slice xa163 X162.1.length xc164)]) (E := 36) (bmap1 rfl) (fun w => by kernel_rfl)) (fun n167 w168 S169 => ?_)
   simp only [pS, pN, pA, pC, pZ]
   have S169 : St w F w168 F157 [⟨n167, [(.slice xa89 X88.1.length xc90), (.slice xa117 X116.1.length xc118), (.bool false), (.slice xa163 X162.1.length xc164)], 36⟩, ⟨n8, [(.slice a154 X162.2.rest.length c155), (.bool X162.2.short)], 136⟩, ⟨n91, [(.slice xa89 X88.1.length xc90), (.slice xa117 X116.1.length xc118), (.bool false), (.slice xa163 X162.1.length xc164)], 36⟩, ⟨n39, [(.int .i64 (((((X20.1 * 65536) + (X29.1 * 256)) + X38.1) : Nat) : Int)), v], 72⟩, ⟨n2, [(.int .i64 0), (.slice none 0 0)], 72⟩] [ownP 4 WrC WrC.mono 36 w.heap.size v acc] := S169
   refine stPush (i := 0) (r := 0) (p := (⟨X88.1, X116.1, false, X162.1⟩ : Wr)) (cs := [(.slice xa89 X88.1.length xc90), (.slice xa117 X116.1.length xc118), (.bool false), (.slice xa163 X162.1.length xc164)]) S169 rfl i36 (.agg #[(.slice none 0 0), (.slice none 0 0), (.bool false), (.slice none 0 0)]) 80 Tryd.underlying37 hi36 hz36 hs36 hb36 rfl (by decide) rfl rfl rfl rfl rfl (WrC.oneCell (p := (⟨X88.1, X116.1, false, X162.1⟩ : Wr)) ⟨_, _, _, _, rfl, (r87.mono (((le102.trans le112).trans le128).trans le158)), (r115.mono (le128.trans le158)), rfl, r161⟩) (⟨_, _, _, _, rfl, (r87.mono (((le102.trans le112).trans le128).trans le158)), (r115.mono (le128.trans le158)), rfl, r161⟩) (Nat.le_refl _) S169.gr.below.size (by unfold maxLen; omega) (by omega) ?_
   intro v170 w171 S172 hn173
   simp only [pS, pN, pA, pC, pZ]
   have S172 := St.drop S172 (L' := [⟨n8, [(.slice a154 X162.2.rest.length c155), (.bool X162.2.short)], 136⟩, ⟨n91, [(.slice xa89 X88.1.length xc90), (.slice xa117 X116.1.length xc118), (.bool false), (.slice xa163 X162.1.length xc164)], 36⟩, ⟨n39, [(.int .i64 (((((X20.1 * 65536) + (X29.1 * 256)) + X38.1) : Nat) : Int)), v], 72⟩, ⟨n2, [(.int .i64 0), (.slice none 0 0)], 72⟩]) (.cons _ (List.Sublist.refl _))
   have S172 : St w F w171 F157 [⟨n8, [(.slice a154 X162.2.rest.length c155), (.bool X162.2.short)], 136⟩, ⟨n91, [(.slice xa89 X88.1.length xc90), (.slice xa117 X116.1.length xc118), (.bool false), (.slice xa163 X162.1.length xc164)], 36⟩, ⟨n39, [(.int .i64 (((((X20.1 * 65536) + (X29.1 * 256)) + X38.1) : Nat) : Int)), v], 72⟩, ⟨n2, [(.int .i64 0), (.slice none 0 0)], 72⟩] [ownP 4 WrC WrC.mono 36 w.heap.size v170 (acc ++ [(⟨X88.1, X116.1, false, X162.1⟩ : Wr)])] := S172
   obtain ⟨a174, cap175, rfl, h176, h177⟩ := (S172.own (i := 0) rfl).shape
   unfold maxLen at h177
   refine do_ rfl (.pointer (some ⟨n39, 1, none⟩)) (ex_field (q := ⟨n39, 1, none⟩) rfl (fa_72_1 _ _)) ?_
   simp only [pS, pN, pA, pC, pZ]
   refine stStore (i := 2) (v := (.slice a174 (acc ++ [(⟨X88.1, X116.1, false, X162.1⟩ : Wr)]).length cap175)) S172 rfl rfl rfl rfl (size_37) (allc1 rfl) (Nat.le_of_ble_eq_true rfl) (fun w178 S179 => ?_)
   simp only [pS, pN, pA, pC, pZ]
   have S179 : St w F w178 F157 [⟨n8, [(.slice a154 X162.2.rest.length c155), (.bool X162.2.short)], 136⟩, ⟨n91, [(.slice xa89 X88.1.length xc90), (.slice xa117 X116.1.length xc118), (.bool false), (.slice xa163 X162.1.length xc164)], 36⟩, ⟨n39, [(.int .i64 (((((X20.1 * 65536) + (X29.1 * 256)) + X38.1) : Nat) : Int)), (.slice a174 (acc ++ [(⟨X88.1, X116.1, false, X162.1⟩ : Wr)]).length cap175)], 72⟩, ⟨n2, [(.int .i64 0), (.slice none 0 0)], 72⟩] [ownP 4 WrC WrC.mono 36 w.heap.size (.slice a174 (acc ++ [(⟨X88.1, X116.1, false, X162.1⟩ : Wr)]).length cap175) (acc ++ [(⟨X88.1, X116.1, false, X162.1⟩ : Wr)])] := S179
   refine wl_nil (hK67 _ _ ?_)
   have S180 := St.front S179 (i := 3) rfl
   have S180 : St w F w178 F157 [⟨n2, [(.int .i64 0), (.slice none 0 0)], 72⟩, ⟨n8, [(.slice a154 X162.2.rest.length c155), (.bool X162.2.short)], 136⟩, ⟨n91, [(.slice xa89 X88.1.length xc90), (.slice xa117 X116.1.length xc118), (.bool false), (.slice xa163 X162.1.length xc164)], 36⟩, ⟨n39, [(.int .i64 (((((X20.1 * 65536) + (X29.1 * 256)) + X38.1) : Nat) : Int)), (.slice a174 (acc ++ [(⟨X88.1, X116.1, false, X162.1⟩ : Wr)]).length cap175)], 72⟩] [ownP 4 WrC WrC.mono 36 w.heap.size (.slice a174 (acc ++ [(⟨X88.1, X116.1, false, X162.1⟩ : Wr)]).length cap175) (acc ++ [(⟨X88.1, X116.1, false, X162.1⟩ : Wr)])] := S180
   have S181 := St.front S180 (i := 3) rfl
   have S181 : St w F w178 F157 [⟨n39, [(.int .i64 (((((X20.1 * 65536) + (X29.1 * 256)) + X38.1) : Nat) : Int)), (.slice a174 (acc ++ [(⟨X88.1, X116.1, false, X162.1⟩ : Wr)]).length cap175)], 72⟩, ⟨n2, [(.int .i64 0), (.slice none 0 0)], 72⟩, ⟨n8, [(.slice a154 X162.2.rest.length c155), (.bool X162.2.short)], 136⟩, ⟨n91, [(.slice xa89 X88.1.length xc90), (.slice xa117 X116.1.length xc118), (.bool false), (.slice xa163 X162.1.length xc164)], 36⟩] [ownP 4 WrC WrC.mono 36 w.heap.size (.slice a174 (acc ++ [(⟨X88.1, X116.1, false, X162.1⟩ : Wr)]).length cap175) (acc ++ [(⟨X88.1, X116.1, false, X162.1⟩ : Wr)])] := S181
   have S182 := St.front S181 (i := 2) rfl
   have S182 : St w F w178 F157 [⟨n8, [(.slice a154 X162.2.rest.length c155), (.bool X162.2.short)], 136⟩, ⟨n39, [(.int .i64 (((((X20.1 * 65536) + (X29.1 * 256)) + X38.1) : Nat) : Int)), (.slice a174 (acc ++ [(⟨X88.1, X116.1, false, X162.1⟩ : Wr)]).length cap175)], 72⟩, ⟨n2, [(.int .i64 0), (.slice none 0 0)], 72⟩, ⟨n91, [(.slice xa89 X88.1.length xc90), (.slice xa117 X116.1.length xc118), (.bool false), (.slice xa163 X162.1.length xc164)], 36⟩] [ownP 4 WrC WrC.mono 36 w.heap.size (.slice a174 (acc ++ [(⟨X88.1, X116.1, false, X162.1⟩ : Wr)]).length cap175) (acc ++ [(⟨X88.1, X116.1, false, X162.1⟩ : Wr)])] := S182
   have S183 := St.front S182 (i := 3) rfl
   have S183 : St w F w178 F157 [⟨n91, [(.slice xa89 X88.1.length xc90), (.slice xa117 X116.1.length xc118), (.bool false), (.slice xa163 X162.1.length xc164)], 36⟩, ⟨n8, [(.slice a154 X162.2.rest.length c155), (.bool X162.2.short)], 136⟩, ⟨n39, [(.int .i64 (((((X20.1 * 65536) + (X29.1 * 256)) + X38.1) : Nat) : Int)), (.slice a174 (acc ++ [(⟨X88.1, X116.1, false, X162.1⟩ : Wr)]).length cap175)], 72⟩, ⟨n2, [(.int .i64 0), (.slice none 0 0)], 72⟩] [ownP 4 WrC WrC.mono 36 w.heap.size (.slice a174 (acc ++ [(⟨X88.1, X116.1, false, X162.1⟩ : Wr)]).length cap175) (acc ++ [(⟨X88.1, X116.1, false, X162.1⟩ : Wr)])] := S183
   refine region_wl ?_
   refine do_ rfl (.int .i64 (((k + 1) : Nat) : Int)) (ex_add (m := ((k : Nat) : Int)) (n := (1 : Int)) (r := (((k + 1) : Nat) : Int)) rfl rfl (by omega) (by omega) (by omega)) ?_
   simp only [pS, pN, pA, pC, pZ]
   refine do_ rfl (.int .i64 (((k + 1) : Nat) : Int)) (ex_move _) ?_
   simp only [pS, pN, pA, pC, pZ]
   refine wl_nil ?_
   have S183 := St.drop S183 (L' := [⟨n8, [(.slice a154 X162.2.rest.length c155), (.bool X162.2.short)], 136⟩, ⟨n39, [(.int .i64 (((((X20.1 * 65536) + (X29.1 * 256)) + X38.1) : Nat) : Int)), (.slice a174 (acc ++ [(⟨X88.1, X116.1, false, X162.1⟩ : Wr)]).length cap175)], 72⟩, ⟨n2, [(.int .i64 0), (.slice none 0 0)], 72⟩]) (.cons _ (List.Sublist.refl _))
   have hwr : wrR rk = ((⟨X88.1, X116.1, false, X162.1⟩ : Wr), X162.2) := by unfold wrR partR; simp only [hX77, hX88, hX105, hX116, hX131]; rw [if_neg (by omega), hX162]
   exact hK64 _ _ _ (by omega) ⟨(k + 1), X162.2, (acc ++ [(⟨X88.1, X116.1, false, X162.1⟩ : Wr)]), (.slice a174 (acc ++ [(⟨X88.1, X116.1, false, X162.1⟩ : Wr)]).length cap175), a154, c155, F157, _, rfl, rfl, rfl, S183, ((((((le63.trans le74).trans le84).trans le102).trans le112).trans le128).trans le158), (by omega), r160, (by omega), (wrs_step hinv (by omega) hwr), (by simp; omega), (by intro z hz; rcases List.mem_append.1 hz with hz | hz; exact hsm z hz; rw [List.mem_singleton.1 hz]; exact ⟨by show X88.1.length ≤ _; omega, by show X116.1.length ≤ _; omega, by show X162.1.length ≤ _; omega⟩)⟩
 ·refine do_ rfl (.bool false) (ex_lss (m := ((k : Nat) : Int)) (n := ((X54.1 : Nat) : Int)) (b := false) rfl rfl (decide_eq_false (by omega))) ?_
  simp only [pS, pN, pA, pC, pZ]
  refine wl_nil (hK65 _ _ ?_)
  refine wp_seq_k (fun K184 hK184 => ?_)
  refine wp_cond_false rfl ?_
  refine wp_exit ?_
  refine hK44 _ _ ?_
  refine wp_seq_k (fun K185 hK185 => ?_)
  refine wp_seq_k (fun K186 hK186 => ?_)
  have hend := wrs_end hinv (by omega)
  have hD : cmR ⟨b, false⟩ = (((((X20.1 * 65536) + (X29.1 * 256)) + X38.1), acc), rk) := by unfold cmR; simp only [hX20, hX29, hX38, hX54]; rw [hend]
  obtain ⟨a187, cap188, rfl, h189, h190⟩ := (S62.own (i := 0) rfl).shape
  unfold maxLen at h190
  obtain ⟨F191, S192, le193, hv194⟩ := St.freeze S62 (i := 0) rfl (Nat.le_refl _)
  have S192 : St w F w61 F191 [⟨n8, [(.slice ra rk.rest.length rc), (.bool rk.short)], 136⟩, ⟨n39, [(.int .i64 (((((X20.1 * 65536) + (X29.1 * 256)) + X38.1) : Nat) : Int)), (.slice a187 acc.length cap188)], 72⟩, ⟨n2, [(.int .i64 0), (.slice none 0 0)], 72⟩] [] := S192
  have hv194 : Wrs _ (.slice a187 acc.length cap188) acc := hv194
  refine region_wl ?_
  refine do_ rfl (.agg #[(.int .i64 (((((X20.1 * 65536) + (X29.1 * 256)) + X38.1) : Nat) : Int)), (.slice a187 acc.length cap188)]) (ex_load rfl (loadN (cs := [(.int .i64 (((((X20.1 * 65536) + (X29.1 * 256)) + X38.1) : Nat) : Int)), (.slice a187 acc.length cap188)]) Tryd.underlying72 rfl (size_72) (St.range S192 (i := 1) rfl 0 [(.int .i64 (((((X20.1 * 65536) + (X29.1 * 256)) + X38.1) : Nat) : Int)), (.slice a187 acc.length cap188)] (sub_range 0 rfl)))) ?_
  simp only [pS, pN, pA, pC, pZ]
  have hE : decE b = if rk.short = true then 14 else if 0 < rk.rest.length then 4 else tapeE (⟨(((X20.1 * 65536) + (X29.1 * 256)) + X38.1), acc⟩ : Cm) := by unfold decE; rw [hD]
  refine stTells (v := (.int .i64 (tapeE (⟨(((X20.1 * 65536) + (X29.1 * 256)) + X38.1), acc⟩ : Cm)))) S192 rfl (ex_fn (vs := #[(.agg #[(.int .i64 (((((X20.1 * 65536) + (X29.1 * 256)) + X38.1) : Nat) : Int)), (.slice a187 acc.length cap188)])]) (map1 rfl) rfl (ent_56 _ _)) (tapeCheck_spec _ _ _ (⟨(((X20.1 * 65536) + (X29.1 * 256)) + X38.1), acc⟩ : Cm) (S192).sat ⟨_, _, rfl, hv194⟩ hsm) (fun w195 S196 => ?_)
  simp only [pS, pN, pA, pC, pZ]
  refine do_ rfl (.int .i64 (tapeE (⟨(((X20.1 * 65536) + (X29.1 * 256)) + X38.1), acc⟩ : Cm))) (ex_assign _) ?_
  simp only [pS, pN, pA, pC, pZ]
  refine wl_nil (hK186 _ _ ?_)
  refine wp_block ?_
  refine wp_seq_k (fun K197 hK197 => region_wl ?_)
  refine do_ rfl (.pointer (some ⟨n8, 0, none⟩)) (ex_move _) ?_
  simp only [pS, pN, pA, pC, pZ]
  refine do_ rfl (.pointer (some ⟨n8, 0, none⟩)) (ex_nil rfl) ?_
  simp only [pS, pN, pA, pC, pZ]
  refine do_ rfl (.pointer (some ⟨n8, 1, none⟩)) (ex_field (q := ⟨n8, 1, none⟩) rfl (fa_136_1 _ _)) ?_
  simp only [pS, pN, pA, pC, pZ]
  refine do_ rfl (.bool rk.short) (ex_load rfl (load1 (nagg_4 _) (St.cell S196 (i := 0) rfl rfl))) ?_
  simp only [pS, pN, pA, pC, pZ]
  refine do_ rfl (.bool rk.short) (ex_assign _) ?_
  simp only [pS, pN, pA, pC, pZ]
  refine wl_nil (hK197 _ _ ?_)
  refine wp_cond_split rfl (fun hsh => ?_) (fun hsh => ?_)
  ·refine wp_seq_k (fun K198 hK198 => region_wl ?_)
   refine do_ rfl (.agg #[(.int .i64 0), (.slice none 0 0)]) (ex_build (ps := #[]) (bmap0) (by kernel_rfl)) ?_
   simp only [pS, pN, pA, pC, pZ]
   refine stStore (i := 2) (v := (.agg #[(.int .i64 0), (.slice none 0 0)])) S196 rfl rfl rfl rfl (size_72) (allc2 rfl rfl) (Nat.le_of_ble_eq_true rfl) (fun w199 S200 => ?_)
   simp only [pS, pN, pA, pC, pZ]
   have S200 : St w F w199 F191 [⟨n8, [(.slice ra rk.rest.length rc), (.bool rk.short)], 136⟩, ⟨n39, [(.int .i64 (((((X20.1 * 65536) + (X29.1 * 256)) + X38.1) : Nat) : Int)), (.slice a187 acc.length cap188)], 72⟩, ⟨n2, [(.int .i64 0), (.slice none 0 0)], 72⟩] [] := S200
   refine do_ rfl (.int .i64 14) (ex_assign _) ?_
   simp only [pS, pN, pA, pC, pZ]
   refine wl_nil (hK198 _ _ ?_)
   refine wp_ret ?_
   (try simp only [Exit.then, Exit.inBlock, ↓reduceIte, Nat.reduceEqDiff])
   refine bodyPost_ret (v := (.tuple #[(.agg #[(.int .i64 0), (.slice none 0 0)]), (.int .i64 14)])) ?_ rfl ?_
   ·exact res_ct rfl ⟨_, rfl, loadN (cs := [(.int .i64 0), (.slice none 0 0)]) Tryd.underlying72 rfl (size_72) (St.range S200 (i := 2) rfl 0 [(.int .i64 0), (.slice none 0 0)] (sub_range 0 rfl))⟩ rfl
   ·have he : decE b = 14 := by rw [hE, if_pos hsh]
    have hC : decC b = ⟨0, []⟩ := by unfold decC; rw [if_neg (by rw [he]; decide)]
    rw [he, hC]
    exact ⟨_, _, rfl, S200.gr, _, rfl, none, 0, rfl, Sl.nil _ _ _⟩
  ·refine wp_seq_k (fun K201 hK201 => region_wl ?_)
   refine do_ rfl (.pointer (some ⟨n8, 0, none⟩)) (ex_move _) ?_
   simp only [pS, pN, pA, pC, pZ]
   refine do_ rfl (.pointer (some ⟨n8, 0, none⟩)) (ex_nil rfl) ?_
   simp only [pS, pN, pA, pC, pZ]
   refine do_ rfl (.pointer (some ⟨n8, 0, none⟩)) (ex_field (q := ⟨n8, 0, none⟩) rfl (fa_136_0 _ _)) ?_
   simp only [pS, pN, pA, pC, pZ]
   refine do_ rfl (.slice ra rk.rest.length rc) (ex_load rfl (load1 (nagg_23 _) (St.cell S196 (i := 0) rfl rfl))) ?_
   simp only [pS, pN, pA, pC, pZ]
   refine do_ rfl (.int .i64 ((rk.rest.length : Nat) : Int)) (ex_len Tryd.underlying23 rfl) ?_
   simp only [pS, pN, pA, pC, pZ]
   by_cases hc71 : 0 < rk.rest.length
   ·refine do_ rfl (.bool true) (ex_gtr (m := ((rk.rest.length : Nat) : Int)) (n := (0 : Int)) (b := true) rfl rfl (decide_eq_true (by omega))) ?_
    simp only [pS, pN, pA, pC, pZ]
    refine do_ rfl (.bool true) (ex_assign _) ?_
    simp only [pS, pN, pA, pC, pZ]
    refine wl_nil (hK201 _ _ ?_)
    refine wp_cond_true rfl ?_
    refine wp_seq_k (fun K202 hK202 => region_wl ?_)
    refine do_ rfl (.agg #[(.int .i64 0), (.slice none 0 0)]) (ex_build (ps := #[]) (bmap0) (by kernel_rfl)) ?_
    simp only [pS, pN, pA, pC, pZ]
    refine stStore (i := 2) (v := (.agg #[(.int .i64 0), (.slice none 0 0)])) S196 rfl rfl rfl rfl (size_72) (allc2 rfl rfl) (Nat.le_of_ble_eq_true rfl) (fun w203 S204 => ?_)
    simp only [pS, pN, pA, pC, pZ]
    have S204 : St w F w203 F191 [⟨n8, [(.slice ra rk.rest.length rc), (.bool rk.short)], 136⟩, ⟨n39, [(.int .i64 (((((X20.1 * 65536) + (X29.1 * 256)) + X38.1) : Nat) : Int)), (.slice a187 acc.length cap188)], 72⟩, ⟨n2, [(.int .i64 0), (.slice none 0 0)], 72⟩] [] := S204
    refine do_ rfl (.int .i64 4) (ex_assign _) ?_
    simp only [pS, pN, pA, pC, pZ]
    refine wl_nil (hK202 _ _ ?_)
    refine wp_ret ?_
    (try simp only [Exit.then, Exit.inBlock, ↓reduceIte, Nat.reduceEqDiff])
    refine bodyPost_ret (v := (.tuple #[(.agg #[(.int .i64 0), (.slice none 0 0)]), (.int .i64 4)])) ?_ rfl ?_
    ·exact res_ct rfl ⟨_, rfl, loadN (cs := [(.int .i64 0), (.slice none 0 0)]) Tryd.underlying72 rfl (size_72) (St.range S204 (i := 2) rfl 0 [(.int .i64 0), (.slice none 0 0)] (sub_range 0 rfl))⟩ rfl
    ·have he : decE b = 4 := by rw [hE, if_neg (by simpa using hsh), if_pos (by omega)]
     have hC : decC b = ⟨0, []⟩ := by unfold decC; rw [if_neg (by rw [he]; decide)]
     rw [he, hC]
     exact ⟨_, _, rfl, S204.gr, _, rfl, none, 0, rfl, Sl.nil _ _ _⟩
   ·refine do_ rfl (.bool false) (ex_gtr (m := ((rk.rest.length : Nat) : Int)) (n := (0 : Int)) (b := false) rfl rfl (decide_eq_false (by omega))) ?_
    simp only [pS, pN, pA, pC, pZ]
    refine do_ rfl (.bool false) (ex_assign _) ?_
    simp only [pS, pN, pA, pC, pZ]
    refine wl_nil (hK201 _ _ ?_)
    refine wp_cond_false rfl ?_
    refine wp_seq_k (fun K205 hK205 => region_wl ?_)
    refine do_ rfl (.int .i64 (tapeE (⟨(((X20.1 * 65536) + (X29.1 * 256)) + X38.1), acc⟩ : Cm))) (ex_move _) ?_
    simp only [pS, pN, pA, pC, pZ]
    by_cases hc75 : (tapeE (⟨(((X20.1 * 65536) + (X29.1 * 256)) + X38.1), acc⟩ : Cm)) = (0 : Int)
    ·refine do_ rfl (.bool false) (ex_neq (m := (tapeE (⟨(((X20.1 * 65536) + (X29.1 * 256)) + X38.1), acc⟩ : Cm))) (n := (0 : Int)) (b := false) rfl rfl (bne_eq_false_iff_eq.2 (by omega))) ?_
     simp only [pS, pN, pA, pC, pZ]
     refine do_ rfl (.bool false) (ex_assign _) ?_
     simp only [pS, pN, pA, pC, pZ]
     refine wl_nil (hK205 _ _ ?_)
     refine wp_cond_false rfl ?_
     refine wp_skip ?_
     refine hK185 _ _ ?_
     refine wp_seq_k (fun K206 hK206 => region_wl ?_)
     refine do_ rfl (.agg #[(.int .i64 (((((X20.1 * 65536) + (X29.1 * 256)) + X38.1) : Nat) : Int)), (.slice a187 acc.length cap188)]) (ex_load rfl (loadN (cs := [(.int .i64 (((((X20.1 * 65536) + (X29.1 * 256)) + X38.1) : Nat) : Int)), (.slice a187 acc.length cap188)]) Tryd.underlying72 rfl (size_72) (St.range S196 (i := 1) rfl 0 [(.int .i64 (((((X20.1 * 65536) + (X29.1 * 256)) + X38.1) : Nat) : Int)), (.slice a187 acc.length cap188)] (sub_range 0 rfl)))) ?_
     simp only [pS, pN, pA, pC, pZ]
     refine stStore (i := 2) (v := (.agg #[(.int .i64 (((((X20.1 * 65536) + (X29.1 * 256)) + X38.1) : Nat) : Int)), (.slice a187 acc.length cap188)])) S196 rfl rfl rfl rfl (size_72) (allc2 rfl rfl) (Nat.le_of_ble_eq_true rfl) (fun w207 S208 => ?_)
     simp only [pS, pN, pA, pC, pZ]
     have S208 : St w F w207 F191 [⟨n8, [(.slice ra rk.rest.length rc), (.bool rk.short)], 136⟩, ⟨n39, [(.int .i64 (((((X20.1 * 65536) + (X29.1 * 256)) + X38.1) : Nat) : Int)), (.slice a187 acc.length cap188)], 72⟩, ⟨n2, [(.int .i64 (((((X20.1 * 65536) + (X29.1 * 256)) + X38.1) : Nat) : Int)), (.slice a187 acc.length cap188)], 72⟩] [] := S208
     refine do_ rfl (.int .i64 0) (ex_assign _) ?_
     simp only [pS, pN, pA, pC, pZ]
     refine wl_nil (hK206 _ _ ?_)
     refine wp_ret ?_
     (try simp only [Exit.then, Exit.inBlock, ↓reduceIte, Nat.reduceEqDiff])
     refine bodyPost_ret (v := (.tuple #[(.agg #[(.int .i64 (((((X20.1 * 65536) + (X29.1 * 256)) + X38.1) : Nat) : Int)), (.slice a187 acc.length cap188)]), (.int .i64 0)])) ?_ rfl ?_
     ·exact res_ct rfl ⟨_, rfl, loadN (cs := [(.int .i64 (((((X20.1 * 65536) + (X29.1 * 256)) + X38.1) : Nat) : Int)), (.slice a187 acc.length cap188)]) Tryd.underlying72 rfl (size_72) (St.range S208 (i := 2) rfl 0 [(.int .i64 (((((X20.1 * 65536) + (X29.1 * 256)) + X38.1) : Nat) : Int)), (.slice a187 acc.length cap188)] (sub_range 0 rfl))⟩ rfl
     ·have he : decE b = 0 := by rw [hE, if_neg (by simpa using hsh), if_neg (by omega), show tapeE (⟨(((X20.1 * 65536) + (X29.1 * 256)) + X38.1), acc⟩ : Cm) = 0 from by omega]
      have hC : decC b = (⟨(((X20.1 * 65536) + (X29.1 * 256)) + X38.1), acc⟩ : Cm) := by unfold decC; rw [if_pos he, hD]
      rw [he, hC]
      exact ⟨_, _, rfl, S208.gr, _, rfl, _, _, rfl, hv194⟩
    ·refine do_ rfl (.bool true) (ex_neq (m := (tapeE (⟨(((X20.1 * 65536) + (X29.1 * 256)) + X38.1), acc⟩ : Cm))) (n := (0 : Int)) (b := true) rfl rfl (bne_iff_ne.2 (by omega))) ?_
     simp only [pS, pN, pA, pC, pZ]
     refine do_ rfl (.bool true) (ex_assign _) ?_
     simp only [pS, pN, pA, pC, pZ]
     refine wl_nil (hK205 _ _ ?_)
     refine wp_cond_true rfl ?_
     refine wp_seq_k (fun K209 hK209 => region_wl ?_)
     refine do_ rfl (.agg #[(.int .i64 0), (.slice none 0 0)]) (ex_build (ps := #[]) (bmap0) (by kernel_rfl)) ?_
     simp only [pS, pN, pA, pC, pZ]
     refine do_ rfl (.int .i64 (tapeE (⟨(((X20.1 * 65536) + (X29.1 * 256)) + X38.1), acc⟩ : Cm))) (ex_move _) ?_
     simp only [pS, pN, pA, pC, pZ]
     refine stStore (i := 2) (v := (.agg #[(.int .i64 0), (.slice none 0 0)])) S196 rfl rfl rfl rfl (size_72) (allc2 rfl rfl) (Nat.le_of_ble_eq_true rfl) (fun w210 S211 => ?_)
     simp only [pS, pN, pA, pC, pZ]
     have S211 : St w F w210 F191 [⟨n8, [(.slice ra rk.rest.length rc), (.bool rk.short)], 136⟩, ⟨n39, [(.int .i64 (((((X20.1 * 65536) + (X29.1 * 256)) + X38.1) : Nat) : Int)), (.slice a187 acc.length cap188)], 72⟩, ⟨n2, [(.int .i64 0), (.slice none 0 0)], 72⟩] [] := S211
     refine do_ rfl (.int .i64 (tapeE (⟨(((X20.1 * 65536) + (X29.1 * 256)) + X38.1), acc⟩ : Cm))) (ex_assign _) ?_
     simp only [pS, pN, pA, pC, pZ]
     refine wl_nil (hK209 _ _ ?_)
     refine wp_ret ?_
     (try simp only [Exit.then, Exit.inBlock, ↓reduceIte, Nat.reduceEqDiff])
     refine bodyPost_ret (v := (.tuple #[(.agg #[(.int .i64 0), (.slice none 0 0)]), (.int .i64 (tapeE (⟨(((X20.1 * 65536) + (X29.1 * 256)) + X38.1), acc⟩ : Cm)))])) ?_ rfl ?_
     ·exact res_ct rfl ⟨_, rfl, loadN (cs := [(.int .i64 0), (.slice none 0 0)]) Tryd.underlying72 rfl (size_72) (St.range S211 (i := 2) rfl 0 [(.int .i64 0), (.slice none 0 0)] (sub_range 0 rfl))⟩ rfl
     ·have he : decE b = tapeE (⟨(((X20.1 * 65536) + (X29.1 * 256)) + X38.1), acc⟩ : Cm) := by rw [hE, if_neg (by simpa using hsh), if_neg (by omega)]
      have hC : decC b = ⟨0, []⟩ := by unfold decC; rw [if_neg (by rw [he]; omega)]
      rw [he, hC]
      exact ⟨_, _, rfl, S211.gr, _, rfl, none, 0, rfl, Sl.nil _ _ _⟩
end Go.Proofs.YtikklmjengkliaaDoor
