/- Rules, plain laws and walks: H1 S10 TP1 TP2 -/
import Derived.Test.YtcpngkkconalhaaBT8
import Derived.Test.YtcpngkkconalhaaBT2
import Derived.OrdersHeld
namespace Go.Proofs.Ytcpngkkconalhaa
open Go.RowKit
set_option maxRecDepth 100000
set_option linter.unusedVariables false
set_option linter.unusedSimpArgs false
theorem applyNil {r : Wr} (h : WrOk r) : ∃ g, applyE [] [r] = (0, g) := by
  rw [applyE_one h]
  cases hw : writeF [] r with
  | some g => exact ⟨g, rfl⟩
  | none =>
    have := (writeF_none (m := 0) (ForestOk.nil 0) h (by omega) hw).1
    simp at this
theorem ex_rem {P : Program} {ρ : Operand → Value} {w : World} {d : Option Tmp} {t X Y : TypeId} {x y : Operand} {pos : String} {after : Array Edge} {guard : Option (Nat × Bool)} {m n : Nat} (hx : ρ x = .int .i64 (m : Int)) (hy : ρ y = .int .i64 (n : Int)) (hn : 0 < n) : (execOp ρ ⟨d, .binOp .rem X x y Y, t, pos, after, guard⟩).run P w = .ok (.value (.int .i64 ((m % n : Nat) : Int))) w := by
  refine ex_bin hx hy ?_
  rw [run_binInt _ (by simp)]
  show (Op.intDiv .rem .i64 m n).run P w = _
  unfold Op.intDiv
  rw [if_neg (by omega)]
  show Result.ok (Value.int .i64 (Int.tmod (m : Int) (n : Int))) w = _
  rw [Int.tmod_eq_emod_of_nonneg (by omega)]
  rfl
def stepN (kl L i : Nat) : Nat := if L - i < 1 + kl % 3 then L - i else 1 + kl % 3
theorem stepN_ok {kl L i : Nat} (h : i < L) : 1 ≤ stepN kl L i ∧ i + stepN kl L i ≤ L ∧ stepN kl L i ≤ 3 := by unfold stepN; split <;> omega
theorem Sl.cap {α : Type} {k : Nat} {R : Fz → List Value → α → Prop} {F : Fz} {a : Option Addr} {n c c' : Nat} {l : List α} (h : Sl k R F (.slice a n c) l) (h1 : n ≤ c') (h2 : c' ≤ c) : Sl k R F (.slice a n c') l := by
  have hn := Sl.len h
  obtain ⟨xs, ⟨a', c0, e1, q1, q2, q3, q4⟩, hr, hk⟩ := h
  injection e1 with e1 e2 e3
  subst e1 e3
  exact ⟨xs, ⟨a, c', by rw [hn], by omega, by omega, fun h => by have := q3 h; omega, q4⟩, hr, hk⟩
theorem Sl.cut3 {α : Type} {k : Nat} {R : Fz → List Value → α → Prop} {F : Fz} {a : Option Addr} {n c i h : Nat} {l : List α} (hk : 0 < k) (hs : Sl k R F (.slice a n c) l) (h1 : i ≤ h) (h2 : h ≤ n) (h3 : n ≤ c) : Sl k R F (.slice (if h = i then a else a.map (·.add (i * k))) (h - i) (h - i)) ((l.take h).drop i) := Sl.dropAny (m := i) hk (Sl.cap (Sl.takeN (m := h) hs h2) (Nat.le_refl _) (by omega)) h1
theorem Sl.cut2 {α : Type} {k : Nat} {R : Fz → List Value → α → Prop} {F : Fz} {a : Option Addr} {n c i h : Nat} {l : List α} (hk : 0 < k) (hs : Sl k R F (.slice a n c) l) (h1 : i ≤ h) (h2 : h ≤ n) : Sl k R F (.slice (if c = i then a else a.map (·.add (i * k))) (h - i) (c - i)) ((l.take h).drop i) := Sl.dropAny (m := i) hk (Sl.takeN (m := h) hs h2) h1
set_option maxHeartbeats 8000000 in
theorem tapeCheckOk_spec (F : Fz) (w : World) (v : Value) (m : Cm) (hs : Sat w F) (hv : CmV F v m) (hm : CmOk m) :
    Calls Try.prog 40 #[v] w (Tells w (.int .i64 0)) := by
 obtain ⟨x1, y1, rfl, h1⟩ := hv
 obtain ⟨_, _, e1, q2, q3⟩ := Sl.shape h1
 injection e1 with _ _ e1
 subst e1
 unfold maxLen at q3
 have hmt := hm.turn
 have hms := hm.some
 have S := St.start hs
 go_enter Try.func40, Try.ntmps40
 refine wp_seq_k (fun K1 hK1 => region_wl ?_)
 refine stNew S (v := fun n => .pointer (some ⟨n, 0, none⟩)) rfl (ex_box (v := (.agg #[(.int .i64 ((m.turn : Nat) : Int)), (.slice x1 m.writes.length y1)])) rfl) (fun n2 w3 S4 => ?_)
 simp only [pS, pN, pA, pC, pZ]
 have S4 : St w F w3 F [⟨n2, [(.int .i64 ((m.turn : Nat) : Int)), (.slice x1 m.writes.length y1)], 50⟩] [] := S4
 refine do_ rfl (.int .i64 0) (ex_assign _) ?_
 simp only [pS, pN, pA, pC, pZ]
 refine wl_nil (hK1 _ _ ?_)
 refine wp_seq_k (fun K5 hK5 => ?_)
 refine wp_seq_k (fun K6 hK6 => region_wl ?_)
 refine do_ rfl (.pointer (some ⟨n2, 0, none⟩)) (ex_field (q := ⟨n2, 0, none⟩) rfl (fa_50_0 _ _)) ?_
 simp only [pS, pN, pA, pC, pZ]
 refine do_ rfl (.int .i64 ((m.turn : Nat) : Int)) (ex_load rfl (load1 (nagg_3 _) (St.cell S4 (i := 0) rfl rfl))) ?_
 simp only [pS, pN, pA, pC, pZ]
 refine do_ rfl (.bool false) (ex_lss (m := ((m.turn : Nat) : Int)) (n := (1 : Int)) (b := false) rfl rfl (decide_eq_false (by omega))) ?_
 simp only [pS, pN, pA, pC, pZ]
 refine do_ rfl (.bool false) (ex_move _) ?_
 simp only [pS, pN, pA, pC, pZ]
 refine do_ rfl (.pointer (some ⟨n2, 0, none⟩)) (ex_field (q := ⟨n2, 0, none⟩) rfl (fa_50_0 _ _)) ?_
 simp only [pS, pN, pA, pC, pZ]
 refine do_ rfl (.int .i64 ((m.turn : Nat) : Int)) (ex_load rfl (load1 (nagg_3 _) (St.cell S4 (i := 0) rfl rfl))) ?_
 simp only [pS, pN, pA, pC, pZ]
 refine do_ rfl (.bool false) (ex_gtr (m := ((m.turn : Nat) : Int)) (n := (1048576 : Int)) (b := false) rfl rfl (decide_eq_false (by omega))) ?_
 simp only [pS, pN, pA, pC, pZ]
 refine do_ rfl (.bool false) (ex_pick (b := false) rfl) ?_
 simp only [pS, pN, pA, pC, pZ]
 refine wl_nil (hK6 _ _ ?_)
 refine wp_cond_false rfl ?_
 refine wp_skip ?_
 refine hK5 _ _ ?_
 refine wp_seq_k (fun K7 hK7 => ?_)
 refine wp_seq_k (fun K8 hK8 => region_wl ?_)
 refine do_ rfl (.pointer (some ⟨n2, 1, none⟩)) (ex_field (q := ⟨n2, 1, none⟩) rfl (fa_50_1 _ _)) ?_
 simp only [pS, pN, pA, pC, pZ]
 refine do_ rfl (.slice x1 m.writes.length y1) (ex_load rfl (load1 (nagg_44 _) (St.cell S4 (i := 0) rfl rfl))) ?_
 simp only [pS, pN, pA, pC, pZ]
 refine do_ rfl (.int .i64 ((m.writes.length : Nat) : Int)) (ex_len Try.underlying44 rfl) ?_
 simp only [pS, pN, pA, pC, pZ]
 refine do_ rfl (.bool false) (ex_lss (m := ((m.writes.length : Nat) : Int)) (n := (1 : Int)) (b := false) rfl rfl (decide_eq_false (by omega))) ?_
 simp only [pS, pN, pA, pC, pZ]
 refine wl_nil (hK8 _ _ ?_)
 refine wp_cond_false rfl ?_
 refine wp_skip ?_
 refine hK7 _ _ ?_
 refine wp_seq_k (fun K9 hK9 => ?_)
 refine wp_seq_k (fun K10 hK10 => region_wl ?_)
 refine do_ rfl (.pointer (some ⟨n2, 1, none⟩)) (ex_field (q := ⟨n2, 1, none⟩) rfl (fa_50_1 _ _)) ?_
 simp only [pS, pN, pA, pC, pZ]
 refine do_ rfl (.slice x1 m.writes.length y1) (ex_load rfl (load1 (nagg_44 _) (St.cell S4 (i := 0) rfl rfl))) ?_
 simp only [pS, pN, pA, pC, pZ]
 refine do_ rfl (.int .i64 ((m.writes.length : Nat) : Int)) (ex_len Try.underlying44 rfl) ?_
 simp only [pS, pN, pA, pC, pZ]
 refine do_ rfl (.int .i64 0) (ex_move _) ?_
 simp only [pS, pN, pA, pC, pZ]
 refine wl_nil (hK10 _ _ ?_)
 refine wp_block ?_
 refine wp_loop_g (fun mm aa w13 => ∃ (k : Nat) (F11 : Fz) (u12 : Nat → Value), mm = m.writes.length - k ∧ u12 = slots aa ∧ aa = ⟨#[(.agg #[(.int .i64 ((m.turn : Nat) : Int)), (.slice x1 m.writes.length y1)]), (.pointer (some ⟨n2, 0, none⟩)), (u12 2), (u12 3), (u12 4), (u12 5), (u12 6), (.pointer (some ⟨n2, 0, none⟩)), (.int .i64 ((m.turn : Nat) : Int)), (.bool false), (.bool false), (.pointer (some ⟨n2, 0, none⟩)), (.int .i64 ((m.turn : Nat) : Int)), (.bool false), (.bool false), (.pointer (some ⟨n2, 1, none⟩)), (.slice x1 m.writes.length y1), (.int .i64 ((m.writes.length : Nat) : Int)), (.bool false), (.pointer (some ⟨n2, 1, none⟩)), (.slice x1 m.writes.length y1), (.int .i64 ((m.writes.length : Nat) : Int)), (.int .i64 ((k : Nat) : Int)), (u12 23), (u12 24), (u12 25), (u12 26), (u12 27), (u12 28), (u12 29), (u12 30), (u12 31), (u12 32), (u12 33), (u12 34), (u12 35), (u12 36), (u12 37), (u12 38)], []⟩ ∧ St w F w13 F11 [⟨n2, [(.int .i64 ((m.turn : Nat) : Int)), (.slice x1 m.writes.length y1)], 50⟩] [] ∧ Le F F11 ∧ (k ≤ m.writes.length)) _ ⟨0, F, _, rfl, rfl, rfl, S4, Le.refl _, (by omega)⟩ ?_
 rintro m14 a15 w16 ⟨k, F11, u12, rfl, -, rfl, S17, le18, hk⟩ K19 hK19
 refine wp_seq_k (fun K20 hK20 => region_wl ?_)
 by_cases hc23 : k < m.writes.length
 ·refine do_ rfl (.bool true) (ex_lss (m := ((k : Nat) : Int)) (n := ((m.writes.length : Nat) : Int)) (b := true) rfl rfl (decide_eq_true (by omega))) ?_
  simp only [pS, pN, pA, pC, pZ]
  refine wl_nil (hK20 _ _ ?_)
  refine wp_seq_k (fun K21 hK21 => ?_)
  refine wp_cond_true rfl ?_
  refine wp_skip ?_
  refine hK21 _ _ ?_
  refine wp_seq_k (fun K22 hK22 => ?_)
  refine wp_block ?_
  refine wp_seq_k (fun K23 hK23 => ?_)
  obtain ⟨p, hp⟩ : ∃ p, m.writes[k]? = some p := ⟨m.writes[k], List.getElem?_eq_getElem hc23⟩
  have hpo := hm.ok p (List.mem_of_getElem? hp)
  obtain ⟨gx, hae⟩ := applyNil hpo
  obtain ⟨b24, o25, ha26, xa28, xc29, xa32, xc33, xa37, xc38, c27, c31, c35, c36, r30, r34, r39⟩ := Wrs.get (h1.mono le18) hp
  refine region_wl ?_
  refine do_ rfl (.int .i64 ((k : Nat) : Int)) (ex_move _) ?_
  simp only [pS, pN, pA, pC, pZ]
  refine do_ rfl (.pointer (some ⟨b24, o25 + k * 4, none⟩)) (ex_at (i := k) (sz := 4) Try.underlying44 (sizeof_27 _) rfl ha26 rfl (by omega) rfl) ?_
  simp only [pS, pN, pA, pC, pZ]
  refine do_ rfl (.agg #[(.slice xa28 p.name.length xc29), (.slice xa32 p.key.length xc33), (.bool p.gone), (.slice xa37 p.value.length xc38)]) (ex_load rfl (loadN (cs := [(.slice xa28 p.name.length xc29), (.slice xa32 p.key.length xc33), (.bool p.gone), (.slice xa37 p.value.length xc38)]) Try.underlying27 rfl (size_27) (range4 (St.fz S17 c27) (St.fz S17 c31) (St.fz S17 c35) (St.fz S17 c36)))) ?_
  simp only [pS, pN, pA, pC, pZ]
  refine stNew S17 (v := fun n => .pointer (some ⟨n, 0, none⟩)) rfl (ex_alloc (zero_27 _)) (fun n40 w41 S42 => ?_)
  simp only [pS, pN, pA, pC, pZ]
  have S42 : St w F w41 F11 [⟨n40, [(.slice none 0 0), (.slice none 0 0), (.bool false), (.slice none 0 0)], 27⟩, ⟨n2, [(.int .i64 ((m.turn : Nat) : Int)), (.slice x1 m.writes.length y1)], 50⟩] [] := S42
  refine do_ rfl (.int .i64 ((k : Nat) : Int)) (ex_assign _) ?_
  simp only [pS, pN, pA, pC, pZ]
  refine stStore (i := 0) (v := (.agg #[(.slice xa28 p.name.length xc29), (.slice xa32 p.key.length xc33), (.bool p.gone), (.slice xa37 p.value.length xc38)])) S42 rfl rfl rfl rfl (size_27) (allc4 rfl rfl rfl rfl) (Nat.le_of_ble_eq_true rfl) (fun w43 S44 => ?_)
  simp only [pS, pN, pA, pC, pZ]
  have S44 : St w F w43 F11 [⟨n40, [(.slice xa28 p.name.length xc29), (.slice xa32 p.key.length xc33), (.bool p.gone), (.slice xa37 p.value.length xc38)], 27⟩, ⟨n2, [(.int .i64 ((m.turn : Nat) : Int)), (.slice x1 m.writes.length y1)], 50⟩] [] := S44
  refine wl_nil (hK23 _ _ ?_)
  refine wp_seq_k (fun K45 hK45 => ?_)
  refine wp_seq_k (fun K46 hK46 => region_wl ?_)
  refine do_ rfl (.int .i64 ((k : Nat) : Int)) (ex_move _) ?_
  simp only [pS, pN, pA, pC, pZ]
  refine do_ rfl (.bool false) (ex_eql (m := ((k : Nat) : Int)) (n := (10 : Int)) (b := false) rfl rfl (beq_eq_false_iff_ne.2 (by omega))) ?_
  simp only [pS, pN, pA, pC, pZ]
  refine wl_nil (hK46 _ _ ?_)
  refine wp_cond_false rfl ?_
  refine wp_skip ?_
  refine hK45 _ _ ?_
  refine wp_seq_k (fun K47 hK47 => region_wl ?_)
  refine do_ rfl (.agg #[(.slice xa28 p.name.length xc29), (.slice xa32 p.key.length xc33), (.bool p.gone), (.slice xa37 p.value.length xc38)]) (ex_load rfl (loadN (cs := [(.slice xa28 p.name.length xc29), (.slice xa32 p.key.length xc33), (.bool p.gone), (.slice xa37 p.value.length xc38)]) Try.underlying27 rfl (size_27) (St.range S44 (i := 0) rfl 0 [(.slice xa28 p.name.length xc29), (.slice xa32 p.key.length xc33), (.bool p.gone), (.slice xa37 p.value.length xc38)] (sub_range 0 rfl)))) ?_
  simp only [pS, pN, pA, pC, pZ]
  refine stNew S44 (v := fun n => .slice (some ⟨n, 0, none⟩) 1 1) rfl (ex_lit (ps := #[(0, (.agg #[(.slice xa28 p.name.length xc29), (.slice xa32 p.key.length xc33), (.bool p.gone), (.slice xa37 p.value.length xc38)]))]) (cells := #[(.slice xa28 p.name.length xc29), (.slice xa32 p.key.length xc33), (.bool p.gone), (.slice xa37 p.value.length xc38)]) (E := 27) (bmap1 rfl) (fun w => by kernel_rfl)) (fun n48 w49 S50 => ?_)
  simp only [pS, pN, pA, pC, pZ]
  have S50 : St w F w49 F11 [⟨n48, [(.slice xa28 p.name.length xc29), (.slice xa32 p.key.length xc33), (.bool p.gone), (.slice xa37 p.value.length xc38)], 27⟩, ⟨n40, [(.slice xa28 p.name.length xc29), (.slice xa32 p.key.length xc33), (.bool p.gone), (.slice xa37 p.value.length xc38)], 27⟩, ⟨n2, [(.int .i64 ((m.turn : Nat) : Int)), (.slice x1 m.writes.length y1)], 50⟩] [] := S50
  obtain ⟨S51, le52, hc53⟩ := St.freezeBlk S50 (i := 0) rfl
  have r55 : Wrs _ (.slice (some ⟨n48, 0, none⟩) 1 1) [p] := sl_of_block (R := WrC) (l := [p]) (el := [[(.slice xa28 p.name.length xc29), (.slice xa32 p.key.length xc33), (.bool p.gone), (.slice xa37 p.value.length xc38)]]) hc53 rfl ⟨⟨_, _, _, _, rfl, (r30.mono le52), (r34.mono le52), rfl, (r39.mono le52)⟩, trivial⟩ (by simp) (by unfold maxLen; simp)
  generalize addF F11 w49 n48 = F54 at *
  have S51 : St w F w49 F54 [⟨n40, [(.slice xa28 p.name.length xc29), (.slice xa32 p.key.length xc33), (.bool p.gone), (.slice xa37 p.value.length xc38)], 27⟩, ⟨n2, [(.int .i64 ((m.turn : Nat) : Int)), (.slice x1 m.writes.length y1)], 50⟩] [] := S51
  refine stGives S51 rfl (ex_fn (vs := #[(.slice none 0 0), (.slice (some ⟨n48, 0, none⟩) 1 1)]) (map2 rfl rfl) rfl (ent_34 _ _)) (apply_is (S51).sat (Sl.nil _ _ _) r55 (ForestOk.nil 60) (by simpa using hpo) hae) ?_
  intro v61 w56 F58 S57 le59 R60
  obtain ⟨_, rfl, r64⟩ := R60
  obtain ⟨a62, c63, rfl, h65, h66⟩ := Sl.shape r64
  unfold maxLen at h66
  have h65 : gx.length ≤ c63 := h65
  have r64 : Tns _ (.slice a62 gx.length c63) gx := r64
  simp only [pS, pN, pA, pC, pZ]
  refine do_ rfl (.tuple #[(.slice a62 gx.length c63), (.int .i64 0)]) (ex_move _) ?_
  simp only [pS, pN, pA, pC, pZ]
  refine do_ rfl (.slice a62 gx.length c63) (ex_extract rfl rfl) ?_
  simp only [pS, pN, pA, pC, pZ]
  refine do_ rfl (.int .i64 0) (ex_extract rfl rfl) ?_
  simp only [pS, pN, pA, pC, pZ]
  refine do_ rfl (.slice a62 gx.length c63) (ex_assign _) ?_
  simp only [pS, pN, pA, pC, pZ]
  refine do_ rfl (.int .i64 0) (ex_assign _) ?_
  simp only [pS, pN, pA, pC, pZ]
  refine wl_nil (hK47 _ _ ?_)
  refine wp_seq_k (fun K67 hK67 => region_wl ?_)
  refine do_ rfl (.int .i64 0) (ex_move _) ?_
  simp only [pS, pN, pA, pC, pZ]
  refine do_ rfl (.bool false) (ex_neq (b := false) rfl rfl (by decide)) ?_
  simp only [pS, pN, pA, pC, pZ]
  refine wl_nil (hK67 _ _ ?_)
  refine wp_cond_false rfl ?_
  refine wp_skip ?_
  refine hK22 _ _ ?_
  refine region_wl ?_
  refine do_ rfl (.int .i64 (((k + 1) : Nat) : Int)) (ex_add (m := ((k : Nat) : Int)) (n := (1 : Int)) (r := (((k + 1) : Nat) : Int)) rfl rfl (by omega) (by omega) (by omega)) ?_
  simp only [pS, pN, pA, pC, pZ]
  refine do_ rfl (.int .i64 (((k + 1) : Nat) : Int)) (ex_move _) ?_
  simp only [pS, pN, pA, pC, pZ]
  refine wl_nil ?_
  have S57 := St.drop S57 (L' := [⟨n2, [(.int .i64 ((m.turn : Nat) : Int)), (.slice x1 m.writes.length y1)], 50⟩]) (.cons _ (List.Sublist.refl _))
  exact hK19 _ _ _ (by omega) ⟨(k + 1), F58, _, rfl, rfl, rfl, S57, ((le18.trans le52).trans le59), (by omega)⟩
 ·refine do_ rfl (.bool false) (ex_lss (m := ((k : Nat) : Int)) (n := ((m.writes.length : Nat) : Int)) (b := false) rfl rfl (decide_eq_false (by omega))) ?_
  simp only [pS, pN, pA, pC, pZ]
  refine wl_nil (hK20 _ _ ?_)
  refine wp_seq_k (fun K68 hK68 => ?_)
  refine wp_cond_false rfl ?_
  refine wp_exit ?_
  refine hK9 _ _ ?_
  refine wp_seq_k (fun K69 hK69 => region_wl ?_)
  refine do_ rfl (.int .i64 0) (ex_assign _) ?_
  simp only [pS, pN, pA, pC, pZ]
  refine wl_nil (hK69 _ _ ?_)
  refine wp_ret ?_
  (try simp only [Exit.then, Exit.inBlock, ↓reduceIte, Nat.reduceEqDiff])
  refine bodyPost_ret (v := (.int .i64 0)) ?_ rfl ?_
  ·exact res_t rfl rfl
  ·exact ⟨rfl, S17.gr.below⟩
set_option maxHeartbeats 8000000 in
theorem folded_spec (F : Fz) (w : World) (u : Value) (cs : List Cm) (n : Nat) (hs : Sat w F) (hl : Cms F u cs) {m : Nat} (hh : HistOk m cs) (hm : m ≤ 60) (h300 : cs.length ≤ 300) (hn : n ≤ cs.length) :
    Calls Try.prog 66 #[u, .int .i64 (n : Int)] w (Gives w F (TnsE (stateC cs n) 0)) := by
 obtain ⟨a, c, rfl, hc1, hc2⟩ := Sl.shape hl
 unfold maxLen at hc2
 have S := St.start hs
 go_enter Try.func66, Try.ntmps66
 refine wp_seq_k (fun K1 hK1 => region_wl ?_)
 refine do_ rfl (.slice none 0 0) (ex_assign _) ?_
 simp only [pS, pN, pA, pC, pZ]
 refine do_ rfl (.int .i64 0) (ex_assign _) ?_
 simp only [pS, pN, pA, pC, pZ]
 refine wl_nil (hK1 _ _ ?_)
 refine wp_seq_k (fun K2 hK2 => ?_)
 refine wp_seq_k (fun K3 hK3 => region_wl ?_)
 refine do_ rfl (.slice a cs.length c) (ex_move _) ?_
 simp only [pS, pN, pA, pC, pZ]
 refine do_ rfl (.int .i64 ((cs.length : Nat) : Int)) (ex_len Try.underlying60 rfl) ?_
 simp only [pS, pN, pA, pC, pZ]
 refine do_ rfl (.bool false) (ex_gtr (m := ((cs.length : Nat) : Int)) (n := (300 : Int)) (b := false) rfl rfl (decide_eq_false (by omega))) ?_
 simp only [pS, pN, pA, pC, pZ]
 refine wl_nil (hK3 _ _ ?_)
 refine wp_cond_false rfl ?_
 refine wp_skip ?_
 refine hK2 _ _ ?_
 refine wp_seq_k (fun K4 hK4 => region_wl ?_)
 refine do_ rfl (.slice none 0 0) (ex_assign _) ?_
 simp only [pS, pN, pA, pC, pZ]
 refine do_ rfl (.slice none 0 0) (ex_assign _) ?_
 simp only [pS, pN, pA, pC, pZ]
 refine wl_nil (hK4 _ _ ?_)
 refine wp_seq_k (fun K5 hK5 => ?_)
 refine wp_seq_k (fun K6 hK6 => region_wl ?_)
 refine do_ rfl (.slice a cs.length c) (ex_move _) ?_
 simp only [pS, pN, pA, pC, pZ]
 refine do_ rfl (.int .i64 ((cs.length : Nat) : Int)) (ex_len Try.underlying60 rfl) ?_
 simp only [pS, pN, pA, pC, pZ]
 refine do_ rfl (.int .i64 0) (ex_move _) ?_
 simp only [pS, pN, pA, pC, pZ]
 refine wl_nil (hK6 _ _ ?_)
 refine wp_block ?_
 refine wp_loop_g (fun mm aa w9 => ∃ (k : Nat) (v : Value) (u : Value) (F7 : Fz) (u8 : Nat → Value), mm = cs.length - k ∧ u8 = slots aa ∧ aa = ⟨#[(.slice a cs.length c), (.int .i64 ((n : Nat) : Int)), undef, undef, (u8 4), (u8 5), v, u, (u8 8), (u8 9), (u8 10), (u8 11), (u8 12), (.slice a cs.length c), (.int .i64 ((cs.length : Nat) : Int)), (.bool false), (.slice a cs.length c), (.int .i64 ((cs.length : Nat) : Int)), (.int .i64 ((k : Nat) : Int)), (u8 19), (u8 20), (u8 21), (u8 22), (u8 23), (u8 24), (u8 25), (u8 26), (u8 27), (u8 28), (u8 29), (u8 30), (u8 31), (u8 32), (u8 33), (u8 34), (u8 35), (u8 36), (u8 37), (u8 38), (u8 39), (u8 40), (u8 41), (u8 42), (u8 43), (u8 44), (u8 45), (u8 46), (u8 47), (u8 48), (u8 49), undef], []⟩ ∧ St w F w9 F7 [] [] ∧ Le F F7 ∧ (k ≤ cs.length) ∧ (Tns F7 v (stateC cs k)) ∧ (Tns F7 u (stateC cs (if n ≤ k then n else 0)))) _ ⟨0, (.slice none 0 0), (.slice none 0 0), F, _, rfl, rfl, rfl, S, Le.refl _, (by omega), (Sl.nil _ _ _), (by rw [show (if n ≤ 0 then n else 0) = 0 from by split <;> omega]; exact Sl.nil _ _ _)⟩ ?_
 rintro m10 a11 w12 ⟨k, v, u, F7, u8, rfl, -, rfl, S13, le14, hk, hvf, huf⟩ K15 hK15
 refine wp_seq_k (fun K16 hK16 => region_wl ?_)
 by_cases hc19 : k < cs.length
 ·refine do_ rfl (.bool true) (ex_lss (m := ((k : Nat) : Int)) (n := ((cs.length : Nat) : Int)) (b := true) rfl rfl (decide_eq_true (by omega))) ?_
  simp only [pS, pN, pA, pC, pZ]
  refine wl_nil (hK16 _ _ ?_)
  refine wp_seq_k (fun K17 hK17 => ?_)
  refine wp_cond_true rfl ?_
  refine wp_skip ?_
  refine hK17 _ _ ?_
  refine wp_seq_k (fun K18 hK18 => ?_)
  refine wp_block ?_
  refine wp_seq_k (fun K19 hK19 => ?_)
  obtain ⟨p, hp⟩ : ∃ p, cs[k]? = some p := ⟨cs[k], List.getElem?_eq_getElem hc19⟩
  have hpo := hh.ok p (List.mem_of_getElem? hp)
  have hpt : p.turn = k + 1 := by have := hh.turn k hc19; rw [List.getElem?_eq_getElem hc19] at hp; cases hp; exact this
  have okk := (state_ok hh k).mono hm
  have hae : applyE (stateC cs k) p.writes = (0, stateC cs (k + 1)) := by have h := state_next hh hc19; rw [List.getElem?_eq_getElem hc19] at hp; cases hp; rw [applyE_ok hpo.ok hpo.some.2, h]
  obtain ⟨b20, o21, ha22, xa25, xc26, c23, c24, r27⟩ := Cms.get (hl.mono le14) hp
  refine region_wl ?_
  refine do_ rfl (.int .i64 ((k : Nat) : Int)) (ex_move _) ?_
  simp only [pS, pN, pA, pC, pZ]
  refine do_ rfl (.pointer (some ⟨b20, o21 + k * 2, none⟩)) (ex_at (i := k) (sz := 2) Try.underlying60 (sizeof_50 _) rfl ha22 rfl (by omega) rfl) ?_
  simp only [pS, pN, pA, pC, pZ]
  refine do_ rfl (.agg #[(.int .i64 ((p.turn : Nat) : Int)), (.slice xa25 p.writes.length xc26)]) (ex_load rfl (loadN (cs := [(.int .i64 ((p.turn : Nat) : Int)), (.slice xa25 p.writes.length xc26)]) Try.underlying50 rfl (size_50) (range2 (St.fz S13 c23) (St.fz S13 c24)))) ?_
  simp only [pS, pN, pA, pC, pZ]
  refine stNew S13 (v := fun n => .pointer (some ⟨n, 0, none⟩)) rfl (ex_alloc (zero_50 _)) (fun n28 w29 S30 => ?_)
  simp only [pS, pN, pA, pC, pZ]
  have S30 : St w F w29 F7 [⟨n28, [(.int .i64 0), (.slice none 0 0)], 50⟩] [] := S30
  refine do_ rfl (.int .i64 ((k : Nat) : Int)) (ex_assign _) ?_
  simp only [pS, pN, pA, pC, pZ]
  refine stStore (i := 0) (v := (.agg #[(.int .i64 ((p.turn : Nat) : Int)), (.slice xa25 p.writes.length xc26)])) S30 rfl rfl rfl rfl (size_50) (allc2 rfl rfl) (Nat.le_of_ble_eq_true rfl) (fun w31 S32 => ?_)
  simp only [pS, pN, pA, pC, pZ]
  have S32 : St w F w31 F7 [⟨n28, [(.int .i64 ((p.turn : Nat) : Int)), (.slice xa25 p.writes.length xc26)], 50⟩] [] := S32
  refine wl_nil (hK19 _ _ ?_)
  refine wp_seq_k (fun K33 hK33 => ?_)
  refine wp_seq_k (fun K34 hK34 => region_wl ?_)
  refine do_ rfl (.agg #[(.int .i64 ((p.turn : Nat) : Int)), (.slice xa25 p.writes.length xc26)]) (ex_load rfl (loadN (cs := [(.int .i64 ((p.turn : Nat) : Int)), (.slice xa25 p.writes.length xc26)]) Try.underlying50 rfl (size_50) (St.range S32 (i := 0) rfl 0 [(.int .i64 ((p.turn : Nat) : Int)), (.slice xa25 p.writes.length xc26)] (sub_range 0 rfl)))) ?_
  simp only [pS, pN, pA, pC, pZ]
  refine stTells (v := (.int .i64 0)) S32 rfl (ex_fn (vs := #[(.agg #[(.int .i64 ((p.turn : Nat) : Int)), (.slice xa25 p.writes.length xc26)])]) (map1 rfl) rfl (ent_40 _ _)) (tapeCheckOk_spec _ _ _ p (S32).sat ⟨_, _, rfl, r27⟩ hpo) (fun w35 S36 => ?_)
  simp only [pS, pN, pA, pC, pZ]
  refine do_ rfl (.int .i64 0) (ex_assign _) ?_
  simp only [pS, pN, pA, pC, pZ]
  refine wl_nil (hK34 _ _ ?_)
  refine wp_seq_k (fun K37 hK37 => region_wl ?_)
  refine do_ rfl (.int .i64 0) (ex_move _) ?_
  simp only [pS, pN, pA, pC, pZ]
  refine do_ rfl (.bool false) (ex_neq (b := false) rfl rfl (by decide)) ?_
  simp only [pS, pN, pA, pC, pZ]
  refine wl_nil (hK37 _ _ ?_)
  refine wp_cond_false rfl ?_
  refine wp_skip ?_
  refine hK33 _ _ ?_
  refine wp_seq_k (fun K38 hK38 => ?_)
  refine wp_seq_k (fun K39 hK39 => region_wl ?_)
  refine do_ rfl (.pointer (some ⟨n28, 0, none⟩)) (ex_field (q := ⟨n28, 0, none⟩) rfl (fa_50_0 _ _)) ?_
  simp only [pS, pN, pA, pC, pZ]
  refine do_ rfl (.int .i64 ((p.turn : Nat) : Int)) (ex_load rfl (load1 (nagg_3 _) (St.cell S36 (i := 0) rfl rfl))) ?_
  simp only [pS, pN, pA, pC, pZ]
  refine do_ rfl (.int .i64 ((k : Nat) : Int)) (ex_move _) ?_
  simp only [pS, pN, pA, pC, pZ]
  refine do_ rfl (.int .i64 (((k + 1) : Nat) : Int)) (ex_add (m := ((k : Nat) : Int)) (n := (1 : Int)) (r := (((k + 1) : Nat) : Int)) rfl rfl (by omega) (by omega) (by omega)) ?_
  simp only [pS, pN, pA, pC, pZ]
  refine do_ rfl (.bool false) (ex_neq (m := ((p.turn : Nat) : Int)) (n := (((k + 1) : Nat) : Int)) (b := false) rfl rfl (bne_eq_false_iff_eq.2 (by omega))) ?_
  simp only [pS, pN, pA, pC, pZ]
  refine wl_nil (hK39 _ _ ?_)
  refine wp_cond_false rfl ?_
  refine wp_skip ?_
  refine hK38 _ _ ?_
  refine wp_seq_k (fun K40 hK40 => region_wl ?_)
  refine do_ rfl v (ex_move _) ?_
  simp only [pS, pN, pA, pC, pZ]
  refine do_ rfl (.pointer (some ⟨n28, 1, none⟩)) (ex_field (q := ⟨n28, 1, none⟩) rfl (fa_50_1 _ _)) ?_
  simp only [pS, pN, pA, pC, pZ]
  refine do_ rfl (.slice xa25 p.writes.length xc26) (ex_load rfl (load1 (nagg_44 _) (St.cell S36 (i := 0) rfl rfl))) ?_
  simp only [pS, pN, pA, pC, pZ]
  refine stGives S36 rfl (ex_fn (vs := #[v, (.slice xa25 p.writes.length xc26)]) (map2 rfl rfl) rfl (ent_34 _ _)) (apply_is (S36).sat hvf r27 okk hpo.ok hae) ?_
  intro v46 w41 F43 S42 le44 R45
  obtain ⟨_, rfl, r49⟩ := R45
  obtain ⟨a47, c48, rfl, h50, h51⟩ := Sl.shape r49
  unfold maxLen at h51
  have h50 : (stateC cs (k + 1)).length ≤ c48 := h50
  have r49 : Tns _ (.slice a47 (stateC cs (k + 1)).length c48) (stateC cs (k + 1)) := r49
  simp only [pS, pN, pA, pC, pZ]
  refine do_ rfl (.tuple #[(.slice a47 (stateC cs (k + 1)).length c48), (.int .i64 0)]) (ex_move _) ?_
  simp only [pS, pN, pA, pC, pZ]
  refine do_ rfl (.slice a47 (stateC cs (k + 1)).length c48) (ex_extract rfl rfl) ?_
  simp only [pS, pN, pA, pC, pZ]
  refine do_ rfl (.int .i64 0) (ex_extract rfl rfl) ?_
  simp only [pS, pN, pA, pC, pZ]
  refine do_ rfl (.slice a47 (stateC cs (k + 1)).length c48) (ex_assign _) ?_
  simp only [pS, pN, pA, pC, pZ]
  refine do_ rfl (.int .i64 0) (ex_assign _) ?_
  simp only [pS, pN, pA, pC, pZ]
  refine wl_nil (hK40 _ _ ?_)
  refine wp_seq_k (fun K52 hK52 => ?_)
  refine wp_seq_k (fun K53 hK53 => region_wl ?_)
  refine do_ rfl (.int .i64 0) (ex_move _) ?_
  simp only [pS, pN, pA, pC, pZ]
  refine do_ rfl (.bool false) (ex_neq (b := false) rfl rfl (by decide)) ?_
  simp only [pS, pN, pA, pC, pZ]
  refine wl_nil (hK53 _ _ ?_)
  refine wp_cond_false rfl ?_
  refine wp_skip ?_
  refine hK52 _ _ ?_
  refine wp_seq_k (fun K54 hK54 => region_wl ?_)
  refine do_ rfl (.slice a47 (stateC cs (k + 1)).length c48) (ex_move _) ?_
  simp only [pS, pN, pA, pC, pZ]
  refine do_ rfl (.slice a47 (stateC cs (k + 1)).length c48) (ex_assign _) ?_
  simp only [pS, pN, pA, pC, pZ]
  refine wl_nil (hK54 _ _ ?_)
  refine wp_seq_k (fun K55 hK55 => region_wl ?_)
  refine do_ rfl (.int .i64 ((k : Nat) : Int)) (ex_move _) ?_
  simp only [pS, pN, pA, pC, pZ]
  refine do_ rfl (.int .i64 (((k + 1) : Nat) : Int)) (ex_add (m := ((k : Nat) : Int)) (n := (1 : Int)) (r := (((k + 1) : Nat) : Int)) rfl rfl (by omega) (by omega) (by omega)) ?_
  simp only [pS, pN, pA, pC, pZ]
  refine do_ rfl (.int .i64 ((n : Nat) : Int)) (ex_move _) ?_
  simp only [pS, pN, pA, pC, pZ]
  by_cases hc47 : (k + 1) = n
  ·refine do_ rfl (.bool true) (ex_eql (m := (((k + 1) : Nat) : Int)) (n := ((n : Nat) : Int)) (b := true) rfl rfl (beq_iff_eq.2 (by omega))) ?_
   simp only [pS, pN, pA, pC, pZ]
   refine wl_nil (hK55 _ _ ?_)
   refine wp_cond_true rfl ?_
   refine region_wl ?_
   refine do_ rfl (.slice a47 (stateC cs (k + 1)).length c48) (ex_move _) ?_
   simp only [pS, pN, pA, pC, pZ]
   refine do_ rfl (.slice a47 (stateC cs (k + 1)).length c48) (ex_assign _) ?_
   simp only [pS, pN, pA, pC, pZ]
   refine wl_nil (hK18 _ _ ?_)
   refine region_wl ?_
   refine do_ rfl (.int .i64 (((k + 1) : Nat) : Int)) (ex_add (m := ((k : Nat) : Int)) (n := (1 : Int)) (r := (((k + 1) : Nat) : Int)) rfl rfl (by omega) (by omega) (by omega)) ?_
   simp only [pS, pN, pA, pC, pZ]
   refine do_ rfl (.int .i64 (((k + 1) : Nat) : Int)) (ex_move _) ?_
   simp only [pS, pN, pA, pC, pZ]
   refine wl_nil ?_
   have S42 := St.drop S42 (L' := []) (.cons _ (List.Sublist.refl _))
   exact hK15 _ _ _ (by omega) ⟨(k + 1), (.slice a47 (stateC cs (k + 1)).length c48), (.slice a47 (stateC cs (k + 1)).length c48), F43, _, rfl, rfl, rfl, S42, (le14.trans le44), (by omega), r49, (by rw [if_pos (by omega), show n = k + 1 from by omega]; exact r49)⟩
  ·refine do_ rfl (.bool false) (ex_eql (m := (((k + 1) : Nat) : Int)) (n := ((n : Nat) : Int)) (b := false) rfl rfl (beq_eq_false_iff_ne.2 (by omega))) ?_
   simp only [pS, pN, pA, pC, pZ]
   refine wl_nil (hK55 _ _ ?_)
   refine wp_cond_false rfl ?_
   refine wp_skip ?_
   refine hK18 _ _ ?_
   refine region_wl ?_
   refine do_ rfl (.int .i64 (((k + 1) : Nat) : Int)) (ex_add (m := ((k : Nat) : Int)) (n := (1 : Int)) (r := (((k + 1) : Nat) : Int)) rfl rfl (by omega) (by omega) (by omega)) ?_
   simp only [pS, pN, pA, pC, pZ]
   refine do_ rfl (.int .i64 (((k + 1) : Nat) : Int)) (ex_move _) ?_
   simp only [pS, pN, pA, pC, pZ]
   refine wl_nil ?_
   have S42 := St.drop S42 (L' := []) (.cons _ (List.Sublist.refl _))
   exact hK15 _ _ _ (by omega) ⟨(k + 1), (.slice a47 (stateC cs (k + 1)).length c48), u, F43, _, rfl, rfl, rfl, S42, (le14.trans le44), (by omega), r49, (by rw [show (if n ≤ k + 1 then n else 0) = (if n ≤ k then n else 0) from by split <;> split <;> omega]; exact (huf.mono le44))⟩
 ·refine do_ rfl (.bool false) (ex_lss (m := ((k : Nat) : Int)) (n := ((cs.length : Nat) : Int)) (b := false) rfl rfl (decide_eq_false (by omega))) ?_
  simp only [pS, pN, pA, pC, pZ]
  refine wl_nil (hK16 _ _ ?_)
  refine wp_seq_k (fun K56 hK56 => ?_)
  refine wp_cond_false rfl ?_
  refine wp_exit ?_
  refine hK5 _ _ ?_
  refine wp_seq_k (fun K57 hK57 => region_wl ?_)
  refine do_ rfl u (ex_move _) ?_
  simp only [pS, pN, pA, pC, pZ]
  refine do_ rfl u (ex_assign _) ?_
  simp only [pS, pN, pA, pC, pZ]
  refine do_ rfl (.int .i64 0) (ex_assign _) ?_
  simp only [pS, pN, pA, pC, pZ]
  refine wl_nil (hK57 _ _ ?_)
  refine wp_ret ?_
  (try simp only [Exit.then, Exit.inBlock, ↓reduceIte, Nat.reduceEqDiff])
  refine bodyPost_ret (v := (.tuple #[u, (.int .i64 0)])) ?_ rfl ?_
  ·exact res_tt rfl rfl rfl
  ·exact ⟨_, _, rfl, S13.gr, _, rfl, by have := huf; rwa [show (if n ≤ k then n else 0) = n from by rw [if_pos (by omega)]] at this⟩
set_option maxHeartbeats 8000000 in
theorem fold_spec (F : Fz) (w : World) (u : Value) (cs : List Cm) (n : Nat) (hs : Sat w F) (hl : Cms F u cs) {m : Nat} (hh : HistOk m cs) (hm : m ≤ 60) (h300 : cs.length ≤ 300) (hn : n ≤ cs.length) :
    Calls Try.prog 33 #[u, .int .i64 (n : Int)] w (Gives w F (TnsE (stateC cs n) 0)) := by
 obtain ⟨a, c, rfl, hc1, hc2⟩ := Sl.shape hl
 unfold maxLen at hc2
 have S := St.start hs
 go_enter Try.func33, Try.ntmps33
 refine wp_seq_k (fun K1 hK1 => region_wl ?_)
 refine do_ rfl (.slice none 0 0) (ex_assign _) ?_
 simp only [pS, pN, pA, pC, pZ]
 refine do_ rfl (.int .i64 0) (ex_assign _) ?_
 simp only [pS, pN, pA, pC, pZ]
 refine wl_nil (hK1 _ _ ?_)
 refine wp_seq_k (fun K2 hK2 => region_wl ?_)
 refine do_ rfl (.slice a cs.length c) (ex_move _) ?_
 simp only [pS, pN, pA, pC, pZ]
 refine do_ rfl (.int .i64 ((n : Nat) : Int)) (ex_move _) ?_
 simp only [pS, pN, pA, pC, pZ]
 refine stGives S rfl (ex_fn (vs := #[(.slice a cs.length c), (.int .i64 ((n : Nat) : Int))]) (map2 rfl rfl) rfl (ent_66 _ _)) (folded_spec _ _ _ cs n (S).sat hl hh hm h300 (by omega)) ?_
 intro v8 w3 F5 S4 le6 R7
 obtain ⟨_, rfl, r11⟩ := R7
 obtain ⟨a9, c10, rfl, h12, h13⟩ := Sl.shape r11
 unfold maxLen at h13
 have h12 : (stateC cs n).length ≤ c10 := h12
 have r11 : Tns _ (.slice a9 (stateC cs n).length c10) (stateC cs n) := r11
 simp only [pS, pN, pA, pC, pZ]
 refine do_ rfl (.tuple #[(.slice a9 (stateC cs n).length c10), (.int .i64 0)]) (ex_move _) ?_
 simp only [pS, pN, pA, pC, pZ]
 refine do_ rfl (.slice a9 (stateC cs n).length c10) (ex_extract rfl rfl) ?_
 simp only [pS, pN, pA, pC, pZ]
 refine do_ rfl (.int .i64 0) (ex_extract rfl rfl) ?_
 simp only [pS, pN, pA, pC, pZ]
 refine do_ rfl (.slice a9 (stateC cs n).length c10) (ex_assign _) ?_
 simp only [pS, pN, pA, pC, pZ]
 refine do_ rfl (.int .i64 0) (ex_assign _) ?_
 simp only [pS, pN, pA, pC, pZ]
 refine wl_nil (hK2 _ _ ?_)
 refine wp_seq_k (fun K14 hK14 => ?_)
 refine wp_seq_k (fun K15 hK15 => region_wl ?_)
 refine do_ rfl (.int .i64 0) (ex_move _) ?_
 simp only [pS, pN, pA, pC, pZ]
 refine do_ rfl (.bool false) (ex_neq (b := false) rfl rfl (by decide)) ?_
 simp only [pS, pN, pA, pC, pZ]
 refine wl_nil (hK15 _ _ ?_)
 refine wp_cond_false rfl ?_
 refine wp_skip ?_
 refine hK14 _ _ ?_
 refine wp_seq_k (fun K16 hK16 => ?_)
 refine wp_seq_k (fun K17 hK17 => region_wl ?_)
 refine do_ rfl (.int .i64 ((n : Nat) : Int)) (ex_move _) ?_
 simp only [pS, pN, pA, pC, pZ]
 refine do_ rfl (.bool false) (ex_lss (m := ((n : Nat) : Int)) (n := (0 : Int)) (b := false) rfl rfl (decide_eq_false (by omega))) ?_
 simp only [pS, pN, pA, pC, pZ]
 refine do_ rfl (.bool false) (ex_move _) ?_
 simp only [pS, pN, pA, pC, pZ]
 refine do_ rfl (.int .i64 ((n : Nat) : Int)) (ex_move _) ?_
 simp only [pS, pN, pA, pC, pZ]
 refine do_ rfl (.slice a cs.length c) (ex_move _) ?_
 simp only [pS, pN, pA, pC, pZ]
 refine do_ rfl (.int .i64 ((cs.length : Nat) : Int)) (ex_len Try.underlying60 rfl) ?_
 simp only [pS, pN, pA, pC, pZ]
 refine do_ rfl (.bool false) (ex_gtr (m := ((n : Nat) : Int)) (n := ((cs.length : Nat) : Int)) (b := false) rfl rfl (decide_eq_false (by omega))) ?_
 simp only [pS, pN, pA, pC, pZ]
 refine do_ rfl (.bool false) (ex_pick (b := false) rfl) ?_
 simp only [pS, pN, pA, pC, pZ]
 refine wl_nil (hK17 _ _ ?_)
 refine wp_cond_false rfl ?_
 refine wp_skip ?_
 refine hK16 _ _ ?_
 refine wp_seq_k (fun K18 hK18 => region_wl ?_)
 refine do_ rfl (.slice a9 (stateC cs n).length c10) (ex_move _) ?_
 simp only [pS, pN, pA, pC, pZ]
 refine do_ rfl (.slice a9 (stateC cs n).length c10) (ex_assign _) ?_
 simp only [pS, pN, pA, pC, pZ]
 refine do_ rfl (.int .i64 0) (ex_assign _) ?_
 simp only [pS, pN, pA, pC, pZ]
 refine wl_nil (hK18 _ _ ?_)
 refine wp_ret ?_
 (try simp only [Exit.then, Exit.inBlock, ↓reduceIte, Nat.reduceEqDiff])
 refine bodyPost_ret (v := (.tuple #[(.slice a9 (stateC cs n).length c10), (.int .i64 0)])) ?_ rfl ?_
 ·exact res_tt rfl rfl rfl
 ·exact ⟨_, _, rfl, S4.gr, _, rfl, r11⟩
set_option maxHeartbeats 8000000 in
theorem foldedNil_spec (F : Fz) (w : World) (hs : Sat w F) :
    Calls Try.prog 66 #[.slice none 0 0, .int .i64 1] w (Gives w F (TnsE [] 0)) := by
 have S := St.start hs
 go_enter Try.func66, Try.ntmps66
 refine wp_seq_k (fun K1 hK1 => region_wl ?_)
 refine do_ rfl (.slice none 0 0) (ex_assign _) ?_
 simp only [pS, pN, pA, pC, pZ]
 refine do_ rfl (.int .i64 0) (ex_assign _) ?_
 simp only [pS, pN, pA, pC, pZ]
 refine wl_nil (hK1 _ _ ?_)
 refine wp_seq_k (fun K2 hK2 => ?_)
 refine wp_seq_k (fun K3 hK3 => region_wl ?_)
 refine do_ rfl (.slice none 0 0) (ex_move _) ?_
 simp only [pS, pN, pA, pC, pZ]
 refine do_ rfl (.int .i64 0) (ex_len Try.underlying60 rfl) ?_
 simp only [pS, pN, pA, pC, pZ]
 refine do_ rfl (.bool false) (ex_gtr (b := false) rfl rfl (by decide)) ?_
 simp only [pS, pN, pA, pC, pZ]
 refine wl_nil (hK3 _ _ ?_)
 refine wp_cond_false rfl ?_
 refine wp_skip ?_
 refine hK2 _ _ ?_
 refine wp_seq_k (fun K4 hK4 => region_wl ?_)
 refine do_ rfl (.slice none 0 0) (ex_assign _) ?_
 simp only [pS, pN, pA, pC, pZ]
 refine do_ rfl (.slice none 0 0) (ex_assign _) ?_
 simp only [pS, pN, pA, pC, pZ]
 refine wl_nil (hK4 _ _ ?_)
 refine wp_seq_k (fun K5 hK5 => ?_)
 refine wp_seq_k (fun K6 hK6 => region_wl ?_)
 refine do_ rfl (.slice none 0 0) (ex_move _) ?_
 simp only [pS, pN, pA, pC, pZ]
 refine do_ rfl (.int .i64 0) (ex_len Try.underlying60 rfl) ?_
 simp only [pS, pN, pA, pC, pZ]
 refine do_ rfl (.int .i64 0) (ex_move _) ?_
 simp only [pS, pN, pA, pC, pZ]
 refine wl_nil (hK6 _ _ ?_)
 refine wp_block ?_
 refine wp_loop_g (fun mm aa w8 => ∃  (u7 : Nat → Value), mm = 0 ∧ u7 = slots aa ∧ aa = ⟨#[(.slice none 0 0), (.int .i64 1), undef, undef, (u7 4), (u7 5), (.slice none 0 0), (.slice none 0 0), (u7 8), (u7 9), (u7 10), (u7 11), (u7 12), (.slice none 0 0), (.int .i64 0), (.bool false), (.slice none 0 0), (.int .i64 0), (.int .i64 0), (u7 19), (u7 20), (u7 21), (u7 22), (u7 23), (u7 24), (u7 25), (u7 26), (u7 27), (u7 28), (u7 29), (u7 30), (u7 31), (u7 32), (u7 33), (u7 34), (u7 35), (u7 36), (u7 37), (u7 38), (u7 39), (u7 40), (u7 41), (u7 42), (u7 43), (u7 44), (u7 45), (u7 46), (u7 47), (u7 48), (u7 49), undef], []⟩ ∧ St w F w8 F [] []) _ ⟨_, rfl, rfl, rfl, S⟩ ?_
 rintro m9 a10 w11 ⟨u7, rfl, -, rfl, S12⟩ K14 hK14
 refine wp_seq_k (fun K15 hK15 => region_wl ?_)
 refine do_ rfl (.bool false) (ex_lss (b := false) rfl rfl (by decide)) ?_
 simp only [pS, pN, pA, pC, pZ]
 refine wl_nil (hK15 _ _ ?_)
 refine wp_seq_k (fun K16 hK16 => ?_)
 refine wp_cond_false rfl ?_
 refine wp_exit ?_
 refine hK5 _ _ ?_
 refine wp_seq_k (fun K17 hK17 => region_wl ?_)
 refine do_ rfl (.slice none 0 0) (ex_move _) ?_
 simp only [pS, pN, pA, pC, pZ]
 refine do_ rfl (.slice none 0 0) (ex_assign _) ?_
 simp only [pS, pN, pA, pC, pZ]
 refine do_ rfl (.int .i64 0) (ex_assign _) ?_
 simp only [pS, pN, pA, pC, pZ]
 refine wl_nil (hK17 _ _ ?_)
 refine wp_ret ?_
 (try simp only [Exit.then, Exit.inBlock, ↓reduceIte, Nat.reduceEqDiff])
 refine bodyPost_ret (v := (.tuple #[(.slice none 0 0), (.int .i64 0)])) ?_ rfl ?_
 ·exact res_tt rfl rfl rfl
 ·exact ⟨_, _, rfl, S12.gr, _, rfl, Sl.nil _ _ _⟩
set_option maxHeartbeats 8000000 in
theorem foldNil_spec (F : Fz) (w : World) (hs : Sat w F) :
    Calls Try.prog 33 #[.slice none 0 0, .int .i64 1] w (Gives w F (TnsE [] 2)) := by
 have S := St.start hs
 go_enter Try.func33, Try.ntmps33
 refine wp_seq_k (fun K1 hK1 => region_wl ?_)
 refine do_ rfl (.slice none 0 0) (ex_assign _) ?_
 simp only [pS, pN, pA, pC, pZ]
 refine do_ rfl (.int .i64 0) (ex_assign _) ?_
 simp only [pS, pN, pA, pC, pZ]
 refine wl_nil (hK1 _ _ ?_)
 refine wp_seq_k (fun K2 hK2 => region_wl ?_)
 refine do_ rfl (.slice none 0 0) (ex_move _) ?_
 simp only [pS, pN, pA, pC, pZ]
 refine do_ rfl (.int .i64 1) (ex_move _) ?_
 simp only [pS, pN, pA, pC, pZ]
 refine stGives S rfl (ex_fn (vs := #[(.slice none 0 0), (.int .i64 1)]) (map2 rfl rfl) rfl (ent_66 _ _)) (foldedNil_spec _ _ (S).sat) ?_
 intro v8 w3 F5 S4 le6 R7
 obtain ⟨_, rfl, r11⟩ := R7
 obtain ⟨a9, c10, rfl, h12, h13⟩ := Sl.shape r11
 unfold maxLen at h13
 simp only [pS, pN, pA, pC, pZ]
 refine do_ rfl (.tuple #[(.slice a9 ([] : Forest).length c10), (.int .i64 0)]) (ex_move _) ?_
 simp only [pS, pN, pA, pC, pZ]
 refine do_ rfl (.slice a9 ([] : Forest).length c10) (ex_extract rfl rfl) ?_
 simp only [pS, pN, pA, pC, pZ]
 refine do_ rfl (.int .i64 0) (ex_extract rfl rfl) ?_
 simp only [pS, pN, pA, pC, pZ]
 refine do_ rfl (.slice a9 ([] : Forest).length c10) (ex_assign _) ?_
 simp only [pS, pN, pA, pC, pZ]
 refine do_ rfl (.int .i64 0) (ex_assign _) ?_
 simp only [pS, pN, pA, pC, pZ]
 refine wl_nil (hK2 _ _ ?_)
 refine wp_seq_k (fun K14 hK14 => ?_)
 refine wp_seq_k (fun K15 hK15 => region_wl ?_)
 refine do_ rfl (.int .i64 0) (ex_move _) ?_
 simp only [pS, pN, pA, pC, pZ]
 refine do_ rfl (.bool false) (ex_neq (b := false) rfl rfl (by decide)) ?_
 simp only [pS, pN, pA, pC, pZ]
 refine wl_nil (hK15 _ _ ?_)
 refine wp_cond_false rfl ?_
 refine wp_skip ?_
 refine hK14 _ _ ?_
 refine wp_seq_k (fun K16 hK16 => ?_)
 refine wp_seq_k (fun K17 hK17 => region_wl ?_)
 refine do_ rfl (.int .i64 1) (ex_move _) ?_
 simp only [pS, pN, pA, pC, pZ]
 refine do_ rfl (.bool false) (ex_lss (b := false) rfl rfl (by decide)) ?_
 simp only [pS, pN, pA, pC, pZ]
 refine do_ rfl (.bool false) (ex_move _) ?_
 simp only [pS, pN, pA, pC, pZ]
 refine do_ rfl (.int .i64 1) (ex_move _) ?_
 simp only [pS, pN, pA, pC, pZ]
 refine do_ rfl (.slice none 0 0) (ex_move _) ?_
 simp only [pS, pN, pA, pC, pZ]
 refine do_ rfl (.int .i64 0) (ex_len Try.underlying60 rfl) ?_
 simp only [pS, pN, pA, pC, pZ]
 refine do_ rfl (.bool true) (ex_gtr (b := true) rfl rfl (by decide)) ?_
 simp only [pS, pN, pA, pC, pZ]
 refine do_ rfl (.bool true) (ex_pick (b := false) rfl) ?_
 simp only [pS, pN, pA, pC, pZ]
 refine wl_nil (hK17 _ _ ?_)
 refine wp_cond_true rfl ?_
 refine wp_seq_k (fun K18 hK18 => region_wl ?_)
 refine do_ rfl (.slice none 0 0) (ex_assign _) ?_
 simp only [pS, pN, pA, pC, pZ]
 refine do_ rfl (.int .i64 2) (ex_assign _) ?_
 simp only [pS, pN, pA, pC, pZ]
 refine wl_nil (hK18 _ _ ?_)
 refine wp_ret ?_
 (try simp only [Exit.then, Exit.inBlock, ↓reduceIte, Nat.reduceEqDiff])
 refine bodyPost_ret (v := (.tuple #[(.slice none 0 0), (.int .i64 2)])) ?_ rfl ?_
 ·exact res_tt rfl rfl rfl
 ·exact ⟨_, _, rfl, S4.gr, _, rfl, Sl.nil _ _ _⟩
set_option maxHeartbeats 8000000 in
theorem histCheck_spec (F : Fz) (w : World) (u : Value) (cs : List Cm) (hs : Sat w F) (hl : Cms F u cs) {m : Nat} (hh : HistOk m cs) (hm : m ≤ 60) (h300 : cs.length ≤ 300) :
    Calls Try.prog 36 #[u] w (Tells w (.int .i64 0)) := by
 obtain ⟨a, c, rfl, hc1, hc2⟩ := Sl.shape hl
 unfold maxLen at hc2
 have S := St.start hs
 go_enter Try.func36, Try.ntmps36
 refine wp_seq_k (fun K1 hK1 => region_wl ?_)
 refine do_ rfl (.int .i64 0) (ex_assign _) ?_
 simp only [pS, pN, pA, pC, pZ]
 refine wl_nil (hK1 _ _ ?_)
 refine wp_seq_k (fun K2 hK2 => region_wl ?_)
 refine do_ rfl (.slice a cs.length c) (ex_move _) ?_
 simp only [pS, pN, pA, pC, pZ]
 refine do_ rfl (.slice a cs.length c) (ex_move _) ?_
 simp only [pS, pN, pA, pC, pZ]
 refine do_ rfl (.int .i64 ((cs.length : Nat) : Int)) (ex_len Try.underlying60 rfl) ?_
 simp only [pS, pN, pA, pC, pZ]
 refine stGives S rfl (ex_fn (vs := #[(.slice a cs.length c), (.int .i64 ((cs.length : Nat) : Int))]) (map2 rfl rfl) rfl (ent_66 _ _)) (folded_spec _ _ _ cs cs.length (S).sat hl hh hm h300 (by omega)) ?_
 intro v8 w3 F5 S4 le6 R7
 obtain ⟨_, rfl, r11⟩ := R7
 obtain ⟨a9, c10, rfl, h12, h13⟩ := Sl.shape r11
 unfold maxLen at h13
 have h12 : (stateC cs cs.length).length ≤ c10 := h12
 have r11 : Tns _ (.slice a9 (stateC cs cs.length).length c10) (stateC cs cs.length) := r11
 simp only [pS, pN, pA, pC, pZ]
 refine do_ rfl (.tuple #[(.slice a9 (stateC cs cs.length).length c10), (.int .i64 0)]) (ex_move _) ?_
 simp only [pS, pN, pA, pC, pZ]
 refine do_ rfl (.slice a9 (stateC cs cs.length).length c10) (ex_extract rfl rfl) ?_
 simp only [pS, pN, pA, pC, pZ]
 refine do_ rfl (.int .i64 0) (ex_extract rfl rfl) ?_
 simp only [pS, pN, pA, pC, pZ]
 refine do_ rfl (.slice a9 (stateC cs cs.length).length c10) (ex_assign _) ?_
 simp only [pS, pN, pA, pC, pZ]
 refine do_ rfl (.int .i64 0) (ex_assign _) ?_
 simp only [pS, pN, pA, pC, pZ]
 refine wl_nil (hK2 _ _ ?_)
 refine wp_seq_k (fun K14 hK14 => region_wl ?_)
 refine do_ rfl (.int .i64 0) (ex_move _) ?_
 simp only [pS, pN, pA, pC, pZ]
 refine do_ rfl (.int .i64 0) (ex_assign _) ?_
 simp only [pS, pN, pA, pC, pZ]
 refine wl_nil (hK14 _ _ ?_)
 refine wp_ret ?_
 (try simp only [Exit.then, Exit.inBlock, ↓reduceIte, Nat.reduceEqDiff])
 refine bodyPost_ret (v := (.int .i64 0)) ?_ rfl ?_
 ·exact res_t rfl rfl
 ·exact ⟨rfl, S4.gr.below⟩
theorem HistOk.grow {m n : Nat} {cs : List Cm} (h : HistOk m cs) (hm : m ≤ n) : HistOk n cs := ⟨h.turn, h.ok, Nat.le_trans h.size hm, h.fits⟩
theorem chunk_ok {ws : List Wr} (h : ∀ w ∈ ws, WrOk w) {i n : Nat} : ∀ w ∈ (ws.take (i + n)).drop i, WrOk w := fun w hw => h w (List.mem_of_mem_take (List.mem_of_mem_drop hw))
theorem chunk_len {ws : List Wr} {i n : Nat} (h : i + n ≤ ws.length) : ((ws.take (i + n)).drop i).length = n := by rw [List.length_drop, List.length_take]; omega
set_option maxHeartbeats 8000000 in
theorem commits_spec (F : Fz) (w : World) (v : Value) (l : List Pl) (m : Nat) (hs : Sat w F) (hv : Pls F v l) (hm : m ≤ 60) :
    Calls Try.prog 32 #[v, .int .i64 (m : Nat)] w (Gives w F fun F' u => ∃ cs, Cms F' u cs ∧ HistOk m cs ∧ cs.length ≤ m) := by
 obtain ⟨a, c, rfl, hc1, hc2⟩ := Sl.shape hv
 unfold maxLen at hc2
 obtain ⟨i50, hi50, hz50, hs50, hb50⟩ := info_parts info_50
 have S := St.start hs
 go_enter Try.func32, Try.ntmps32
 refine wp_seq_k (fun K1 hK1 => region_wl ?_)
 refine do_ rfl (.slice none 0 0) (ex_assign _) ?_
 simp only [pS, pN, pA, pC, pZ]
 refine wl_nil (hK1 _ _ ?_)
 refine wp_seq_k (fun K2 hK2 => region_wl ?_)
 refine do_ rfl (.slice none 0 0) (ex_assign _) ?_
 simp only [pS, pN, pA, pC, pZ]
 refine wl_nil (hK2 _ _ ?_)
 refine wp_seq_k (fun K3 hK3 => region_wl ?_)
 refine do_ rfl (.slice none 0 0) (ex_assign _) ?_
 simp only [pS, pN, pA, pC, pZ]
 refine wl_nil (hK3 _ _ ?_)
 refine wp_seq_k (fun K4 hK4 => region_wl ?_)
 refine do_ rfl (.slice a l.length c) (ex_move _) ?_
 simp only [pS, pN, pA, pC, pZ]
 refine do_ rfl (.int .i64 ((m : Nat) : Int)) (ex_move _) ?_
 simp only [pS, pN, pA, pC, pZ]
 refine stGives S rfl (ex_fn (vs := #[(.slice a l.length c), (.int .i64 ((m : Nat) : Int))]) (map2 rfl rfl) rfl (ent_24 _ _)) (writes_spec _ _ _ l m (S).sat hv (by omega)) ?_
 intro v10 w5 F7 S6 le8 R9
 obtain ⟨a11, c12, rfl, h13, h14⟩ := Sl.shape R9
 unfold maxLen at h14
 simp only [pS, pN, pA, pC, pZ]
 refine do_ rfl (.slice a11 (writesN l m).length c12) (ex_assign _) ?_
 simp only [pS, pN, pA, pC, pZ]
 refine wl_nil (hK4 _ _ ?_)
 refine wp_seq_k (fun K15 hK15 => ?_)
 refine wp_seq_k (fun K16 hK16 => ?_)
 have hwl := writesN_len l m
 have hwok := writesN_ok l m
 refine region_wl ?_
 refine do_ rfl (.int .i64 0) (ex_assign _) ?_
 simp only [pS, pN, pA, pC, pZ]
 refine wl_nil (hK16 _ _ ?_)
 refine wp_block ?_
 have S17 := St.addNil S6 2 CmC CmC.mono 50 w.heap.size
 refine wp_loop_g (fun mm aa w20 => ∃ (i : Nat) (v : Value) (x : Value) (cs : List Cm) (F18 : Fz) (u19 : Nat → Value), mm = (writesN l m).length - i ∧ u19 = slots aa ∧ aa = ⟨#[(.slice a l.length c), (.int .i64 ((m : Nat) : Int)), undef, undef, (.slice none 0 0), v, x, (.slice a11 (writesN l m).length c12), (.int .i64 ((i : Nat) : Int)), (u19 9), (u19 10), (u19 11), (.slice a l.length c), (.int .i64 ((m : Nat) : Int)), (.slice a11 (writesN l m).length c12), (u19 15), (u19 16), (u19 17), (u19 18), (u19 19), (u19 20), (u19 21), (u19 22), (u19 23), (u19 24), (u19 25), (u19 26), (u19 27), (u19 28), (u19 29), (u19 30), (u19 31), (u19 32), (u19 33), (u19 34), (u19 35), (u19 36), (u19 37), (u19 38), (u19 39), (u19 40), (u19 41), (u19 42), (u19 43), (u19 44), (u19 45), (u19 46), (u19 47), (u19 48), (u19 49), (u19 50), (u19 51), (u19 52), (u19 53), (u19 54), (u19 55), (u19 56), (u19 57), (u19 58), (u19 59), (u19 60), (u19 61), (u19 62), (u19 63), (u19 64), undef], []⟩ ∧ St w F w20 F18 [] [ownP 2 CmC CmC.mono 50 w.heap.size v cs] ∧ Le F7 F18 ∧ (i ≤ (writesN l m).length) ∧ (Tns F18 x (stateC cs cs.length)) ∧ (HistOk i cs) ∧ (cs.length ≤ i)) _ ⟨0, (.slice none 0 0), (.slice none 0 0), [], F7, _, rfl, rfl, rfl, S17, Le.refl _, (by omega), (Sl.nil _ _ _), (HistOk.nil 0), (by simp)⟩ ?_
 rintro m21 a22 w23 ⟨i, v, x, cs, F18, u19, rfl, -, rfl, S24, le25, hi, hx, hh, hcl⟩ K26 hK26
 refine wp_seq_k (fun K27 hK27 => ?_)
 refine wp_seq_k (fun K28 hK28 => region_wl ?_)
 refine do_ rfl (.int .i64 ((i : Nat) : Int)) (ex_move _) ?_
 simp only [pS, pN, pA, pC, pZ]
 refine do_ rfl (.slice a11 (writesN l m).length c12) (ex_move _) ?_
 simp only [pS, pN, pA, pC, pZ]
 refine do_ rfl (.int .i64 (((writesN l m).length : Nat) : Int)) (ex_len Try.underlying44 rfl) ?_
 simp only [pS, pN, pA, pC, pZ]
 by_cases hc18 : i < (writesN l m).length
 ·refine do_ rfl (.bool true) (ex_lss (m := ((i : Nat) : Int)) (n := (((writesN l m).length : Nat) : Int)) (b := true) rfl rfl (decide_eq_true (by omega))) ?_
  simp only [pS, pN, pA, pC, pZ]
  refine wl_nil (hK28 _ _ ?_)
  refine wp_cond_true rfl ?_
  refine wp_skip ?_
  refine hK27 _ _ ?_
  refine wp_block ?_
  refine wp_seq_k (fun K29 hK29 => ?_)
  obtain ⟨p, hp⟩ : ∃ p, (writesN l m)[i]? = some p := ⟨(writesN l m)[i], List.getElem?_eq_getElem hc18⟩
  obtain ⟨b30, o31, ha32, xa34, xc35, xa38, xc39, xa43, xc44, c33, c37, c41, c42, r36, r40, r45⟩ := Wrs.get (R9.mono le25) hp
  refine region_wl ?_
  refine do_ rfl (.slice a11 (writesN l m).length c12) (ex_move _) ?_
  simp only [pS, pN, pA, pC, pZ]
  refine do_ rfl (.int .i64 ((i : Nat) : Int)) (ex_move _) ?_
  simp only [pS, pN, pA, pC, pZ]
  refine do_ rfl (.pointer (some ⟨b30, o31 + i * 4, none⟩)) (ex_at (i := i) (sz := 4) Try.underlying44 (sizeof_27 _) rfl ha32 rfl (by omega) rfl) ?_
  simp only [pS, pN, pA, pC, pZ]
  refine do_ rfl (.pointer (some ⟨b30, o31 + i * 4 + 1, none⟩)) (ex_field (q := ⟨b30, o31 + i * 4 + 1, none⟩) rfl (fa_27_1 _ _)) ?_
  simp only [pS, pN, pA, pC, pZ]
  refine do_ rfl (.slice xa38 p.key.length xc39) (ex_load rfl (load1 (nagg_25 _) (St.fz S24 c37))) ?_
  simp only [pS, pN, pA, pC, pZ]
  refine do_ rfl (.int .i64 ((p.key.length : Nat) : Int)) (ex_len Try.underlying25 rfl) ?_
  simp only [pS, pN, pA, pC, pZ]
  refine do_ rfl (.int .i64 (((p.key.length % 3) : Nat) : Int)) (ex_rem rfl rfl (by decide)) ?_
  simp only [pS, pN, pA, pC, pZ]
  refine do_ rfl (.int .i64 (((1 + (p.key.length % 3)) : Nat) : Int)) (ex_add (m := (1 : Int)) (n := (((p.key.length % 3) : Nat) : Int)) (r := (((1 + (p.key.length % 3)) : Nat) : Int)) rfl rfl (by omega) (by omega) (by omega)) ?_
  simp only [pS, pN, pA, pC, pZ]
  refine do_ rfl (.slice a11 (writesN l m).length c12) (ex_move _) ?_
  simp only [pS, pN, pA, pC, pZ]
  refine do_ rfl (.int .i64 (((writesN l m).length : Nat) : Int)) (ex_len Try.underlying44 rfl) ?_
  simp only [pS, pN, pA, pC, pZ]
  refine do_ rfl (.int .i64 ((i : Nat) : Int)) (ex_move _) ?_
  simp only [pS, pN, pA, pC, pZ]
  refine do_ rfl (.int .i64 ((((writesN l m).length - i) : Nat) : Int)) (ex_sub (m := (((writesN l m).length : Nat) : Int)) (n := ((i : Nat) : Int)) (r := ((((writesN l m).length - i) : Nat) : Int)) rfl rfl (by omega) (by omega) (by omega)) ?_
  simp only [pS, pN, pA, pC, pZ]
  refine do_ rfl (.int .i64 (((stepN p.key.length (writesN l m).length i) : Nat) : Int)) (ex_min (m := (((1 + (p.key.length % 3)) : Nat) : Int)) (n := ((((writesN l m).length - i) : Nat) : Int)) (r := (((stepN p.key.length (writesN l m).length i) : Nat) : Int)) rfl rfl (by unfold stepN; split <;> split <;> omega)) ?_
  simp only [pS, pN, pA, pC, pZ]
  refine do_ rfl (.int .i64 (((stepN p.key.length (writesN l m).length i) : Nat) : Int)) (ex_assign _) ?_
  simp only [pS, pN, pA, pC, pZ]
  refine wl_nil (hK29 _ _ ?_)
  refine wp_seq_k (fun K46 hK46 => ?_)
  obtain ⟨h1n, h2n, h3n⟩ := stepN_ok (kl := p.key.length) hc18
  generalize stepN p.key.length (writesN l m).length i = n at *
  have okk := (state_ok hh cs.length).mono (show i ≤ 60 by omega)
  have hcn := chunk_len (ws := (writesN l m)) (i := i) (n := n) (by omega)
  have hae := applyE_ok (l := stateC cs cs.length) (chunk_ok hwok (i := i) (n := n)) (by omega)
  cases hg : applyF (stateC cs cs.length) (((writesN l m).take (i + n)).drop i) with
  | none =>
   rw [hg] at hae
   refine region_wl ?_
   refine do_ rfl x (ex_move _) ?_
   simp only [pS, pN, pA, pC, pZ]
   refine do_ rfl (.slice a11 (writesN l m).length c12) (ex_move _) ?_
   simp only [pS, pN, pA, pC, pZ]
   refine do_ rfl (.int .i64 ((i : Nat) : Int)) (ex_move _) ?_
   simp only [pS, pN, pA, pC, pZ]
   refine do_ rfl (.int .i64 ((i : Nat) : Int)) (ex_move _) ?_
   simp only [pS, pN, pA, pC, pZ]
   refine do_ rfl (.int .i64 ((n : Nat) : Int)) (ex_move _) ?_
   simp only [pS, pN, pA, pC, pZ]
   refine do_ rfl (.int .i64 (((i + n) : Nat) : Int)) (ex_add (m := ((i : Nat) : Int)) (n := ((n : Nat) : Int)) (r := (((i + n) : Nat) : Int)) rfl rfl (by omega) (by omega) (by omega)) ?_
   simp only [pS, pN, pA, pC, pZ]
   have r47 : Wrs F18 (.slice (if c12 = i then a11 else a11.map (·.add (i * 4))) ((i + n) - i) (c12 - i)) (((writesN l m).take (i + n)).drop i) := Sl.cut2 (by decide) (R9.mono le25) (by omega) (by omega)
   refine do_ rfl (.slice (if c12 = i then a11 else a11.map (·.add (i * 4))) ((i + n) - i) (c12 - i)) (ex_slice (l := i) (h := (i + n)) (sz := 4) Try.underlying44 rfl (sizeof_27 _) (.inr ⟨_, rfl, rfl⟩) (.inr ⟨_, rfl, rfl⟩) (by omega) (by omega) (rfl)) ?_
   simp only [pS, pN, pA, pC, pZ]
   refine stGives S24 rfl (ex_fn (vs := #[x, (.slice (if c12 = i then a11 else a11.map (·.add (i * 4))) ((i + n) - i) (c12 - i))]) (map2 rfl rfl) rfl (ent_34 _ _)) (apply_is (S24).sat hx r47 okk (chunk_ok hwok) hae) ?_
   intro v53 w48 F50 S49 le51 R52
   obtain ⟨_, rfl, r56⟩ := R52
   obtain ⟨a54, c55, rfl, h57, h58⟩ := Sl.shape r56
   unfold maxLen at h58
   simp only [pS, pN, pA, pC, pZ]
   refine do_ rfl (.tuple #[(.slice a54 ([] : Forest).length c55), (.int .i64 11)]) (ex_move _) ?_
   simp only [pS, pN, pA, pC, pZ]
   refine do_ rfl (.slice a54 ([] : Forest).length c55) (ex_extract rfl rfl) ?_
   simp only [pS, pN, pA, pC, pZ]
   refine do_ rfl (.int .i64 11) (ex_extract rfl rfl) ?_
   simp only [pS, pN, pA, pC, pZ]
   refine do_ rfl (.slice a54 ([] : Forest).length c55) (ex_assign _) ?_
   simp only [pS, pN, pA, pC, pZ]
   refine do_ rfl (.int .i64 11) (ex_assign _) ?_
   simp only [pS, pN, pA, pC, pZ]
   refine wl_nil (hK46 _ _ ?_)
   refine wp_seq_k (fun K59 hK59 => ?_)
   refine wp_seq_k (fun K60 hK60 => region_wl ?_)
   refine do_ rfl (.int .i64 11) (ex_move _) ?_
   simp only [pS, pN, pA, pC, pZ]
   refine do_ rfl (.bool false) (ex_eql (b := false) rfl rfl (by decide)) ?_
   simp only [pS, pN, pA, pC, pZ]
   refine wl_nil (hK60 _ _ ?_)
   refine wp_cond_false rfl ?_
   refine wp_skip ?_
   refine hK59 _ _ ?_
   refine region_wl ?_
   refine do_ rfl (.int .i64 ((i : Nat) : Int)) (ex_move _) ?_
   simp only [pS, pN, pA, pC, pZ]
   refine do_ rfl (.int .i64 ((n : Nat) : Int)) (ex_move _) ?_
   simp only [pS, pN, pA, pC, pZ]
   refine do_ rfl (.int .i64 (((i + n) : Nat) : Int)) (ex_add (m := ((i : Nat) : Int)) (n := ((n : Nat) : Int)) (r := (((i + n) : Nat) : Int)) rfl rfl (by omega) (by omega) (by omega)) ?_
   simp only [pS, pN, pA, pC, pZ]
   refine do_ rfl (.int .i64 (((i + n) : Nat) : Int)) (ex_assign _) ?_
   simp only [pS, pN, pA, pC, pZ]
   refine wl_nil ?_
   exact hK26 _ _ _ (by omega) ⟨(i + n), v, x, cs, F50, _, rfl, rfl, rfl, S49, (le25.trans le51), (by omega), (hx.mono le51), (hh.grow (by omega)), (by omega)⟩
  | some g =>
   rw [hg] at hae
   have hsn := HistOk.snoc (n := i + n) hh (chunk_ok hwok) (by omega) (by omega) (by omega) (by omega) hg
   refine region_wl ?_
   refine do_ rfl x (ex_move _) ?_
   simp only [pS, pN, pA, pC, pZ]
   refine do_ rfl (.slice a11 (writesN l m).length c12) (ex_move _) ?_
   simp only [pS, pN, pA, pC, pZ]
   refine do_ rfl (.int .i64 ((i : Nat) : Int)) (ex_move _) ?_
   simp only [pS, pN, pA, pC, pZ]
   refine do_ rfl (.int .i64 ((i : Nat) : Int)) (ex_move _) ?_
   simp only [pS, pN, pA, pC, pZ]
   refine do_ rfl (.int .i64 ((n : Nat) : Int)) (ex_move _) ?_
   simp only [pS, pN, pA, pC, pZ]
   refine do_ rfl (.int .i64 (((i + n) : Nat) : Int)) (ex_add (m := ((i : Nat) : Int)) (n := ((n : Nat) : Int)) (r := (((i + n) : Nat) : Int)) rfl rfl (by omega) (by omega) (by omega)) ?_
   simp only [pS, pN, pA, pC, pZ]
   have r61 : Wrs F18 (.slice (if c12 = i then a11 else a11.map (·.add (i * 4))) ((i + n) - i) (c12 - i)) (((writesN l m).take (i + n)).drop i) := Sl.cut2 (by decide) (R9.mono le25) (by omega) (by omega)
   refine do_ rfl (.slice (if c12 = i then a11 else a11.map (·.add (i * 4))) ((i + n) - i) (c12 - i)) (ex_slice (l := i) (h := (i + n)) (sz := 4) Try.underlying44 rfl (sizeof_27 _) (.inr ⟨_, rfl, rfl⟩) (.inr ⟨_, rfl, rfl⟩) (by omega) (by omega) (rfl)) ?_
   simp only [pS, pN, pA, pC, pZ]
   refine stGives S24 rfl (ex_fn (vs := #[x, (.slice (if c12 = i then a11 else a11.map (·.add (i * 4))) ((i + n) - i) (c12 - i))]) (map2 rfl rfl) rfl (ent_34 _ _)) (apply_is (S24).sat hx r61 okk (chunk_ok hwok) hae) ?_
   intro v67 w62 F64 S63 le65 R66
   obtain ⟨_, rfl, r70⟩ := R66
   obtain ⟨a68, c69, rfl, h71, h72⟩ := Sl.shape r70
   unfold maxLen at h72
   have h71 : g.length ≤ c69 := h71
   have r70 : Tns _ (.slice a68 g.length c69) g := r70
   simp only [pS, pN, pA, pC, pZ]
   refine do_ rfl (.tuple #[(.slice a68 g.length c69), (.int .i64 0)]) (ex_move _) ?_
   simp only [pS, pN, pA, pC, pZ]
   refine do_ rfl (.slice a68 g.length c69) (ex_extract rfl rfl) ?_
   simp only [pS, pN, pA, pC, pZ]
   refine do_ rfl (.int .i64 0) (ex_extract rfl rfl) ?_
   simp only [pS, pN, pA, pC, pZ]
   refine do_ rfl (.slice a68 g.length c69) (ex_assign _) ?_
   simp only [pS, pN, pA, pC, pZ]
   refine do_ rfl (.int .i64 0) (ex_assign _) ?_
   simp only [pS, pN, pA, pC, pZ]
   refine wl_nil (hK46 _ _ ?_)
   refine wp_seq_k (fun K73 hK73 => ?_)
   refine wp_seq_k (fun K74 hK74 => region_wl ?_)
   refine do_ rfl (.int .i64 0) (ex_move _) ?_
   simp only [pS, pN, pA, pC, pZ]
   refine do_ rfl (.bool true) (ex_eql (b := true) rfl rfl (by decide)) ?_
   simp only [pS, pN, pA, pC, pZ]
   refine wl_nil (hK74 _ _ ?_)
   refine wp_cond_true rfl ?_
   refine wp_seq_k (fun K75 hK75 => region_wl ?_)
   refine do_ rfl (.slice a68 g.length c69) (ex_move _) ?_
   simp only [pS, pN, pA, pC, pZ]
   refine do_ rfl (.slice a68 g.length c69) (ex_assign _) ?_
   simp only [pS, pN, pA, pC, pZ]
   refine wl_nil (hK75 _ _ ?_)
   obtain ⟨a76, cap77, rfl, h78, h79⟩ := (S63.own (i := 0) rfl).shape
   unfold maxLen at h79
   refine region_wl ?_
   refine do_ rfl (.slice a76 cs.length cap77) (ex_move _) ?_
   simp only [pS, pN, pA, pC, pZ]
   refine do_ rfl (.slice a76 cs.length cap77) (ex_move _) ?_
   simp only [pS, pN, pA, pC, pZ]
   refine do_ rfl (.int .i64 ((cs.length : Nat) : Int)) (ex_len Try.underlying60 rfl) ?_
   simp only [pS, pN, pA, pC, pZ]
   refine do_ rfl (.int .i64 (((cs.length + 1) : Nat) : Int)) (ex_add (m := ((cs.length : Nat) : Int)) (n := (1 : Int)) (r := (((cs.length + 1) : Nat) : Int)) rfl rfl (by omega) (by omega) (by omega)) ?_
   simp only [pS, pN, pA, pC, pZ]
   refine do_ rfl (.slice a11 (writesN l m).length c12) (ex_move _) ?_
   simp only [pS, pN, pA, pC, pZ]
   refine do_ rfl (.int .i64 ((i : Nat) : Int)) (ex_move _) ?_
   simp only [pS, pN, pA, pC, pZ]
   refine do_ rfl (.int .i64 ((i : Nat) : Int)) (ex_move _) ?_
   simp only [pS, pN, pA, pC, pZ]
   refine do_ rfl (.int .i64 ((n : Nat) : Int)) (ex_move _) ?_
   simp only [pS, pN, pA, pC, pZ]
   refine do_ rfl (.int .i64 (((i + n) : Nat) : Int)) (ex_add (m := ((i : Nat) : Int)) (n := ((n : Nat) : Int)) (r := (((i + n) : Nat) : Int)) rfl rfl (by omega) (by omega) (by omega)) ?_
   simp only [pS, pN, pA, pC, pZ]
   refine do_ rfl (.int .i64 ((i : Nat) : Int)) (ex_move _) ?_
   simp only [pS, pN, pA, pC, pZ]
   refine do_ rfl (.int .i64 ((n : Nat) : Int)) (ex_move _) ?_
   simp only [pS, pN, pA, pC, pZ]
   refine do_ rfl (.int .i64 (((i + n) : Nat) : Int)) (ex_add (m := ((i : Nat) : Int)) (n := ((n : Nat) : Int)) (r := (((i + n) : Nat) : Int)) rfl rfl (by omega) (by omega) (by omega)) ?_
   simp only [pS, pN, pA, pC, pZ]
   have r80 : Wrs F64 (.slice (if (i + n) = i then a11 else a11.map (·.add (i * 4))) ((i + n) - i) ((i + n) - i)) (((writesN l m).take (i + n)).drop i) := Sl.cut3 (by decide) (R9.mono (le25.trans le65)) (by omega) (by omega) (by omega)
   have r80 : Wrs F64 (.slice (if (i + n) = i then a11 else a11.map (·.add (i * 4))) (((writesN l m).take (i + n)).drop i).length ((i + n) - i)) (((writesN l m).take (i + n)).drop i) := by rw [chunk_len (by omega)]; rw [show (i + n) - i = n from by omega] at *; exact r80
   refine do_ rfl (.slice (if (i + n) = i then a11 else a11.map (·.add (i * 4))) (((writesN l m).take (i + n)).drop i).length ((i + n) - i)) (ex_slice3 (l := i) (h := (i + n)) (m := (i + n)) (sz := 4) Try.underlying44 rfl (sizeof_27 _) rfl rfl rfl (by omega) (by omega) (by omega) (by rw [chunk_len (by omega)]; rw [show (i + n) - i = n from by omega])) ?_
   simp only [pS, pN, pA, pC, pZ]
   refine do_ rfl (.agg #[(.int .i64 (((cs.length + 1) : Nat) : Int)), (.slice (if (i + n) = i then a11 else a11.map (·.add (i * 4))) (((writesN l m).take (i + n)).drop i).length ((i + n) - i))]) (ex_build (ps := #[(0, (.int .i64 (((cs.length + 1) : Nat) : Int))), (1, (.slice (if (i + n) = i then a11 else a11.map (·.add (i * 4))) (((writesN l m).take (i + n)).drop i).length ((i + n) - i)))]) (bmap2 rfl rfl) (by kernel_rfl)) ?_
   simp only [pS, pN, pA, pC, pZ]
   refine stNew S63 (v := fun n => .slice (some ⟨n, 0, none⟩) 1 1) rfl (ex_lit (ps := #[(0, (.agg #[(.int .i64 (((cs.length + 1) : Nat) : Int)), (.slice (if (i + n) = i then a11 else a11.map (·.add (i * 4))) (((writesN l m).take (i + n)).drop i).length ((i + n) - i))]))]) (cells := #[(.int .i64 (((cs.length + 1) : Nat) : Int)), (.slice (if (i + n) = i then a11 else a11.map (·.add (i * 4))) (((writesN l m).take (i + n)).drop i).length ((i + n) - i))]) (E := 50) (bmap1 rfl) (fun w => by kernel_rfl)) (fun n81 w82 S83 => ?_)
   simp only [pS, pN, pA, pC, pZ]
   have S83 : St w F w82 F64 [⟨n81, [(.int .i64 (((cs.length + 1) : Nat) : Int)), (.slice (if (i + n) = i then a11 else a11.map (·.add (i * 4))) (((writesN l m).take (i + n)).drop i).length ((i + n) - i))], 50⟩] [ownP 2 CmC CmC.mono 50 w.heap.size (.slice a76 cs.length cap77) cs] := S83
   refine stPush (i := 0) (r := 0) (p := (⟨cs.length + 1, (((writesN l m).take (i + n)).drop i)⟩ : Cm)) (cs := [(.int .i64 (((cs.length + 1) : Nat) : Int)), (.slice (if (i + n) = i then a11 else a11.map (·.add (i * 4))) (((writesN l m).take (i + n)).drop i).length ((i + n) - i))]) S83 rfl i50 (.agg #[(.int .i64 0), (.slice none 0 0)]) 32 Try.underlying60 hi50 hz50 hs50 hb50 rfl (by decide) rfl rfl rfl rfl rfl (CmC.oneCell (p := (⟨cs.length + 1, (((writesN l m).take (i + n)).drop i)⟩ : Cm)) ⟨_, _, rfl, rfl, r80⟩) (⟨_, _, rfl, rfl, r80⟩) (Nat.le_refl _) S83.gr.below.size (by unfold maxLen; omega) (by omega) ?_
   intro v84 w85 S86 hn87
   simp only [pS, pN, pA, pC, pZ]
   have S86 := St.drop S86 (L' := []) (.cons _ (List.Sublist.refl _))
   have S86 : St w F w85 F64 [] [ownP 2 CmC CmC.mono 50 w.heap.size v84 (cs ++ [(⟨cs.length + 1, (((writesN l m).take (i + n)).drop i)⟩ : Cm)])] := S86
   refine do_ rfl v84 (ex_assign _) ?_
   simp only [pS, pN, pA, pC, pZ]
   refine wl_nil (hK73 _ _ ?_)
   refine region_wl ?_
   refine do_ rfl (.int .i64 ((i : Nat) : Int)) (ex_move _) ?_
   simp only [pS, pN, pA, pC, pZ]
   refine do_ rfl (.int .i64 ((n : Nat) : Int)) (ex_move _) ?_
   simp only [pS, pN, pA, pC, pZ]
   refine do_ rfl (.int .i64 (((i + n) : Nat) : Int)) (ex_add (m := ((i : Nat) : Int)) (n := ((n : Nat) : Int)) (r := (((i + n) : Nat) : Int)) rfl rfl (by omega) (by omega) (by omega)) ?_
   simp only [pS, pN, pA, pC, pZ]
   refine do_ rfl (.int .i64 (((i + n) : Nat) : Int)) (ex_assign _) ?_
   simp only [pS, pN, pA, pC, pZ]
   refine wl_nil ?_
   exact hK26 _ _ _ (by omega) ⟨(i + n), v84, (.slice a68 g.length c69), (cs ++ [(⟨cs.length + 1, (((writesN l m).take (i + n)).drop i)⟩ : Cm)]), F64, _, rfl, rfl, rfl, S86, (le25.trans le65), (by omega), (by rw [show (cs ++ [(⟨cs.length + 1, (((writesN l m).take (i + n)).drop i)⟩ : Cm)]).length = cs.length + 1 from by simp, hsn.2]; exact r70), hsn.1, (by simp; omega)⟩
 ·refine do_ rfl (.bool false) (ex_lss (m := ((i : Nat) : Int)) (n := (((writesN l m).length : Nat) : Int)) (b := false) rfl rfl (decide_eq_false (by omega))) ?_
  simp only [pS, pN, pA, pC, pZ]
  refine wl_nil (hK28 _ _ ?_)
  refine wp_cond_false rfl ?_
  refine wp_exit ?_
  refine hK15 _ _ ?_
  refine wp_seq_k (fun K88 hK88 => region_wl ?_)
  refine do_ rfl v (ex_move _) ?_
  simp only [pS, pN, pA, pC, pZ]
  refine do_ rfl v (ex_assign _) ?_
  simp only [pS, pN, pA, pC, pZ]
  refine wl_nil (hK88 _ _ ?_)
  refine wp_ret ?_
  (try simp only [Exit.then, Exit.inBlock, ↓reduceIte, Nat.reduceEqDiff])
  refine bodyPost_ret (v := v) ?_ rfl ?_
  ·exact res_t rfl rfl
  ·obtain ⟨F89, S90, le91, hv92⟩ := St.freeze S24 (i := 0) rfl (Nat.le_refl _)
   have S90 : St w F w23 F89 [] [] := S90
   have hv92 : Cms _ v cs := hv92
   exact ⟨_, _, rfl, S90.gr, cs, hv92, hh.grow (by omega), by omega⟩
end Go.Proofs.Ytcpngkkconalhaa
namespace Go.Proofs.Ytcpngkkconalhaa
open Go.RowKit
set_option linter.unusedVariables false
structure HL (P : Program) (ops : Array Oper) (Q : Exit → Act → World → Prop) (F : Fz) (fuel : Nat) (listed : Array Bool) (a : Act) (w : World) : Prop where
  out : Go.wpAnyH P .any ops Q (fun w => Sat w F) fuel listed a w
section
variable {P : Program} {ops : Array Oper} {Q : Exit → Act → World → Prop} {F : Fz} {fuel : Nat} {listed : Array Bool} {a : Act} {w : World} {o : Oper}
theorem region_hl {id : Nat} {l : List Oper} {w0 : World} {F0 : Fz} {L : List Blk} {M : List RowP} (S : St w0 F0 w F L M) (hm : P.follows .mixedOrders = true) (h : ∀ w', St w0 F0 w' F L M → HL P l.toArray Q F l.length (Array.replicate l.length false) a w') : (Code.region id l.toArray true).wp P Q a w := by
  have := (h { w with drawn := w.drawn + 1 } (S.tells (Below.refl w.heap.size w).drew)).out
  refine wp_region_held (S := fun w => Sat w F) hm ?_
  simpa using this
def canTake (ops : Array Oper) (listed : Array Bool) (i : Nat) : Bool := Region.noSelect ops && Region.free .any ops listed i && (Region.ready .any ops listed).contains i
theorem hl_take {l : List Oper} (i : Nat) (hi : l[i]? = some o) (hc : canTake l.toArray listed i = true) {v : Value} (hQ : ∀ c a w, Q (.panic c) (a.put o.dst v) w → Q (.panic c) a w) (hS : Sat w F) (hw : Region.wanted o (yielded l.toArray a.tmps) = true)
    (hr : ∀ w1, Sat w1 F → (execOp a.eval o).run P w1 = .ok (.value v) w1) (h : HL P l.toArray Q F fuel (listed.setIfInBounds i true) (a.put o.dst v) w) : HL P l.toArray Q F (fuel + 1) listed a w := by
  simp only [canTake, Bool.and_eq_true] at hc
  exact ⟨Go.wpAnyH_take (by simpa using hi) hc.1.1 hc.1.2 hc.2 hQ (.inl ⟨hw, hr⟩) hS h.out⟩
theorem hl_skip {l : List Oper} (i : Nat) (hi : l[i]? = some o) (hc : canTake l.toArray listed i = true) (hQ : ∀ c a w, Q (.panic c) (a.put o.dst undef) w → Q (.panic c) a w) (hS : Sat w F) (hw : Region.wanted o (yielded l.toArray a.tmps) = false)
    (h : HL P l.toArray Q F fuel (listed.setIfInBounds i true) (a.put o.dst undef) w) : HL P l.toArray Q F (fuel + 1) listed a w := by
  simp only [canTake, Bool.and_eq_true] at hc
  exact ⟨Go.wpAnyH_take (by simpa using hi) hc.1.1 hc.1.2 hc.2 hQ (.inr ⟨hw, rfl⟩) hS h.out⟩
theorem Oper.wp_exit {K K' : Act → World → Prop} (hh : o.wp P a w K (Exit.then K' Q)) : o.wp P a w K Q := by
  unfold Oper.wp at *
  generalize (execOp a.eval o).run P w = r at *
  cases r with
  | ok n w' =>
    cases n <;> simp only [Oper.upon] at hh ⊢ <;> try exact hh
  | halt x w' => cases x <;> exact hh
/-- The only one that may come up. -/
theorem hl_next {l : List Oper} (i : Nat) (hr : Region.ready .any l.toArray listed = [i]) (hi : l[i]? = some o) (h : WL P l.toArray (Exit.then (fun a' w' => Sat w' F ∧ Go.wpAnyH P .any l.toArray Q (fun w => Sat w F) fuel (listed.setIfInBounds i true) a' w') Q) [o] a w) : HL P l.toArray Q F (fuel + 1) listed a w := by
  refine ⟨Go.wpAnyH_all hr (by simp) fun j hj => ?_⟩
  have hji : j = i := by simpa using hj
  subst hji
  have h1 := h.out
  unfold wpList at h1
  unfold wpOp
  have hi' : l.toArray[j]? = some o := by simpa using hi
  simp only [hi']
  split
  · rename_i hw
    rw [if_pos hw] at h1
    rcases h1 with h1 | h1
    · left
      refine Oper.wp_mono (fun a' w' hk => ?_) (Oper.wp_exit h1)
      exact hk
    · exact .inr h1
  · rename_i hw
    rw [if_neg hw] at h1
    exact h1
theorem hl_back (hS : Sat w F) (h : HL P ops Q F fuel listed a w) : Exit.then (fun a' w' => Sat w' F ∧ Go.wpAnyH P .any ops Q (fun w => Sat w F) fuel listed a' w') Q .normal a w := ⟨hS, h.out⟩
theorem hl_done (hr : Region.ready .any ops listed = []) (h : Q .normal a w) : HL P ops Q F fuel listed a w := ⟨Go.wpAnyH_done hr h _⟩
end
end Go.Proofs.Ytcpngkkconalhaa
namespace Go.Proofs.Ytcpngkkconalhaa
open Go.RowKit
set_option maxRecDepth 100000
set_option linter.unusedVariables false
set_option linter.unusedSimpArgs false
def ByC (F : Fz) (cs : List Value) (b : UInt8) : Prop := cs = [bv b]
theorem ByC.mono (F F' : Fz) (x : List Value) (p : UInt8) (hl : Le F F') (h : ByC F x p) : ByC F' x p := h
theorem bv_one (b : UInt8) : ∀ u ∈ [bv b], u.oneCell' = true := by intro u hu; rw [List.mem_singleton.1 hu]; rfl
theorem ByC.one (F : Fz) (cs : List Value) (p : UInt8) (h : ByC F cs p) : ∀ u ∈ cs, u.oneCell' = true := by rw [h]; exact bv_one p
theorem bytes_flat : ∀ l : By, ((l.map fun b => [bv b]).flatten) = l.map bv
  | [] => rfl
  | b :: l => by simp [bytes_flat l]
theorem allR_bytes (F : Fz) : ∀ l : By, AllR (ByC F) (l.map fun b => [bv b]) l
  | [] => trivial
  | _ :: l => ⟨rfl, allR_bytes F l⟩
theorem bytes_of : ∀ {xs : List (List Value)} {l : By} {F : Fz}, AllR (ByC F) xs l → xs.flatten = l.map bv
  | [], [], _, _ => rfl
  | x :: xs, b :: l, F, h => by rw [List.flatten_cons, h.1, bytes_of h.2]; rfl
theorem Bs.sl {F : Fz} {v : Value} {l : By} (h : Bs F v l) : Sl 1 ByC F v l := ⟨l.map fun b => [bv b], by rw [bytes_flat]; exact h, allR_bytes F l, by simp⟩
theorem bs_of_sl {F : Fz} {v : Value} {l : By} (h : Sl 1 ByC F v l) : Bs F v l := by
  obtain ⟨xs, h1, h2, _⟩ := h
  rw [bytes_of h2] at h1
  exact h1
theorem conv_b8 (z : Nat) (w : World) : (convert 3 5 (.int .i64 (z : Nat))).run Try.prog w = .ok (bv (b8 z)) w := by
  have : (convert 3 5 (.int .i64 (z : Nat))).run Try.prog w = .ok (.int .u8 (IntKind.u8.wrap (z : Int))) w := by kernel_rfl
  rw [this]
  have e : IntKind.u8.wrap (z : Int) = ((b8 z).toNat : Int) := by
    rw [show IntKind.u8.wrap (z : Int) = (z : Int) % 256 from rfl]
    simp [b8]
  rw [e]; rfl
theorem conv_int (b : UInt8) (w : World) : (convert 5 3 (bv b)).run Try.prog w = .ok (.int .i64 ((b.toNat : Nat) : Int)) w := by
  have : (convert 5 3 (bv b)).run Try.prog w = .ok (.int .i64 (IntKind.i64.wrap (b.toNat : Int))) w := by kernel_rfl
  rw [this, wrap64_in (by omega) (by have := UInt8.toNat_lt b; omega)]
theorem ex_shrN {P : Program} {ρ : Operand → Value} {w : World} {d : Option Tmp} {t X Y : TypeId} {x y : Operand} {pos : String} {after : Array Edge} {guard : Option (Nat × Bool)} {m n : Nat} (hx : ρ x = .int .i64 (m : Int)) (hy : ρ y = .int .u64 (n : Int)) (hn : n ≤ 64) : (execOp ρ ⟨d, .binOp .shr X x y Y, t, pos, after, guard⟩).run P w = .ok (.value (.int .i64 ((m / 2 ^ n : Nat) : Int))) w := by
  have e : (eqGuard .shr X x y (.int .i64 (m : Int)) (.int .u64 (n : Int))).run P w = .ok () w := rfl
  have h : (binOp .shr X (.int .i64 (m : Int)) (.int .u64 (n : Int))).run P w = .ok (.int .i64 ((m / 2 ^ n : Nat) : Int)) w := by
    show (Op.shift .shr .i64 (m : Int) .u64 (n : Int)).run P w = _
    unfold Op.shift
    rw [if_neg (by omega)]
    show Result.ok (Value.int .i64 (Int.fdiv (m : Int) (2 ^ (min (n : Int).toNat 64)))) w = _
    rw [Int.toNat_natCast, Nat.min_eq_left hn, Int.fdiv_eq_ediv_of_nonneg _ (show (0 : Int) ≤ 2 ^ n from Int.le_of_lt (Int.pow_pos (by decide)))]
    simp
  simp only [execOp, hx, hy, Sem.run_bind, e, Result.andThen_ok, h, Sem.run_pure]
set_option maxHeartbeats 8000000 in
theorem part_spec {w0 w : World} {F0 F : Fz} {L0 : List Blk} {M0 : List RowP} {v u : Value} {l p : By}
    (S : St w0 F0 w F L0 (ownP 1 ByC ByC.mono 5 w0.heap.size v l :: M0)) (hu : Bs F u p) (hl : l.length ≤ 100000) (hp : p.length ≤ 1000) :
    Calls Try.prog 62 #[v, u] w fun e w' => ∃ v', e = .returned v' ∧ St w0 F0 w' F L0 (ownP 1 ByC ByC.mono 5 w0.heap.size v' (l ++ encPart p) :: M0) := by
 obtain ⟨a, c, rfl, hc1, hc2⟩ := (S.own (i := 0) rfl).shape
 obtain ⟨x, y, rfl, _⟩ := hu.shape
 unfold maxLen at hc2
 obtain ⟨i5, hi5, hz5, hs5, hb5⟩ := info_parts infoU8
 go_enter Try.func62, Try.ntmps62
 refine wp_seq_k (fun K1 hK1 => region_wl ?_)
 refine do_ rfl (.slice none 0 0) (ex_assign _) ?_
 simp only [pS, pN, pA, pC, pZ]
 refine wl_nil (hK1 _ _ ?_)
 refine wp_seq_k (fun K2 hK2 => region_wl ?_)
 refine do_ rfl (.slice a l.length c) (ex_move _) ?_
 simp only [pS, pN, pA, pC, pZ]
 refine do_ rfl (.slice x p.length y) (ex_move _) ?_
 simp only [pS, pN, pA, pC, pZ]
 refine do_ rfl (.int .i64 ((p.length : Nat) : Int)) (ex_len Try.underlying25 rfl) ?_
 simp only [pS, pN, pA, pC, pZ]
 refine do_ rfl (bv (b8 p.length)) (ex_convert (v := (.int .i64 ((p.length : Nat) : Int))) rfl (conv_b8 p.length _)) ?_
 simp only [pS, pN, pA, pC, pZ]
 refine stNew S (v := fun n => .slice (some ⟨n, 0, none⟩) 1 1) rfl (ex_lit (ps := #[(0, (bv (b8 p.length)))]) (cells := #[(bv (b8 p.length))]) (E := 5) (bmap1 rfl) (fun w => by kernel_rfl)) (fun n3 w4 S5 => ?_)
 simp only [pS, pN, pA, pC, pZ]
 have S5 : St w0 F0 w4 F (⟨n3, [(bv (b8 p.length))], 5⟩ :: L0) (ownP 1 ByC ByC.mono 5 w0.heap.size (.slice a l.length c) l :: M0) := S5
 refine stPush (i := 0) (r := 0) (p := (b8 p.length)) (cs := [(bv (b8 p.length))]) S5 rfl i5 (.int .u8 0) 1 Try.underlying25 hi5 hz5 hs5 hb5 rfl (by decide) rfl rfl rfl rfl rfl (bv_one (b8 p.length)) (rfl) (Nat.le_refl _) S5.gr.below.size (by unfold maxLen; omega) (by omega) ?_
 intro v6 w7 S8 hn9
 simp only [pS, pN, pA, pC, pZ]
 have S8 := St.drop S8 (L' := (L0)) (.cons _ (List.Sublist.refl _))
 have S8 : St w0 F0 w7 F (L0) (ownP 1 ByC ByC.mono 5 w0.heap.size v6 (l ++ [(b8 p.length)]) :: M0) := S8
 refine do_ rfl (.slice x p.length y) (ex_move _) ?_
 simp only [pS, pN, pA, pC, pZ]
 refine stAppendS (r := 0) (u := (.slice x p.length y)) S8 rfl i5 (.int .u8 0) 1 Try.underlying25 hi5 hz5 hs5 hb5 rfl (by decide) rfl rfl rfl (Sl.toW (Bs.sl hu) (S8).sat) ByC.one (Nat.le_refl _) S8.gr.below.size (by unfold maxLen; simp only [List.length_append, List.length_cons, List.length_nil]; omega) (by simp only [List.length_append, List.length_cons, List.length_nil]; omega) ?_
 intro v10 w11 S12 hn13
 simp only [pS, pN, pA, pC, pZ]
 have S12 : St w0 F0 w11 F (L0) (ownP 1 ByC ByC.mono 5 w0.heap.size v10 ((l ++ [(b8 p.length)]) ++ p) :: M0) := S12
 refine do_ rfl v10 (ex_assign _) ?_
 simp only [pS, pN, pA, pC, pZ]
 refine wl_nil (hK2 _ _ ?_)
 refine wp_ret ?_
 (try simp only [Exit.then, Exit.inBlock, ↓reduceIte, Nat.reduceEqDiff])
 refine bodyPost_ret (v := v10) ?_ rfl ?_
 ·exact res_t rfl rfl
 ·have he : (l ++ [b8 p.length]) ++ p = l ++ encPart p := by unfold encPart; simp
  rw [he] at S12
  exact ⟨_, rfl, S12⟩
abbrev Bys (F : Fz) (v : Value) (l : By) : Prop := Sl 1 ByC F v l
def encHead (t n : Nat) : By := [b8 (t / 65536), b8 (t / 256), b8 t, b8 n]
theorem encCm_head (t : Nat) (ws : List Wr) : encCm t ws = encHead t ws.length ++ ws.flatMap encWr := rfl
theorem encPart_len (p : By) : (encPart p).length = 1 + p.length := by simp [encPart]; omega
theorem enc_len {ws : List Wr} (h : ∀ w ∈ ws, WrOk w) : (ws.flatMap encWr).length ≤ 59 * ws.length := by
  induction ws with
  | nil => simp
  | cons w ws ih =>
    have hw := h w (by simp)
    have h1 := hw.name.2; have h2 := hw.key2; have h3 := hw.value
    have := encWr_len hw.gone
    have := ih (fun x hx => h x (by simp [hx]))
    rw [List.flatMap_cons, List.length_append, List.length_cons]
    omega
theorem enc_gone {H : By} {ws : List Wr} {k : Nat} {p : Wr} (hp : ws[k]? = some p) (hg : p.gone = true) : (((H ++ (ws.take k).flatMap encWr) ++ encPart p.name) ++ encPart p.key) ++ [(255 : UInt8)] = H ++ (ws.take (k + 1)).flatMap encWr := by
  rw [take_snoc hp, List.flatMap_append]
  simp [encWr, hg]
theorem enc_val {H : By} {ws : List Wr} {k : Nat} {p : Wr} (hp : ws[k]? = some p) (hg : p.gone = false) : (((H ++ (ws.take k).flatMap encWr) ++ encPart p.name) ++ encPart p.key) ++ encPart p.value = H ++ (ws.take (k + 1)).flatMap encWr := by
  rw [take_snoc hp, List.flatMap_append]
  simp [encWr, hg]
def EncR (b : By) (e : Int) (F : Fz) (u : Value) : Prop := ∃ x, u = .tuple #[x, .int .i64 e] ∧ Bs F x b
set_option maxHeartbeats 8000000 in
theorem encode_spec (F : Fz) (w : World) (v : Value) (m : Cm) (hs : Sat w F) (hv : CmV F v m) (hm : CmOk m) :
    Calls Try.prog 26 #[v] w (Gives w F (EncR (encCm m.turn m.writes) 0)) := by
 obtain ⟨x1, y1, rfl, h1⟩ := hv
 obtain ⟨_, _, e1, q2, q3⟩ := Sl.shape h1
 injection e1 with _ _ e1
 subst e1
 unfold maxLen at q3
 have hms := hm.some
 obtain ⟨i5, hi5, hz5, hs5, hb5⟩ := info_parts infoU8
 have S := St.start hs
 go_enter Try.func26, Try.ntmps26
 refine wp_seq_k (fun K1 hK1 => region_wl ?_)
 refine stNew S (v := fun n => .pointer (some ⟨n, 0, none⟩)) rfl (ex_box (v := (.agg #[(.int .i64 ((m.turn : Nat) : Int)), (.slice x1 m.writes.length y1)])) rfl) (fun n2 w3 S4 => ?_)
 simp only [pS, pN, pA, pC, pZ]
 have S4 : St w F w3 F [⟨n2, [(.int .i64 ((m.turn : Nat) : Int)), (.slice x1 m.writes.length y1)], 50⟩] [] := S4
 refine do_ rfl (.slice none 0 0) (ex_assign _) ?_
 simp only [pS, pN, pA, pC, pZ]
 refine do_ rfl (.int .i64 0) (ex_assign _) ?_
 simp only [pS, pN, pA, pC, pZ]
 refine wl_nil (hK1 _ _ ?_)
 refine wp_seq_k (fun K5 hK5 => ?_)
 refine wp_seq_k (fun K6 hK6 => region_wl ?_)
 refine do_ rfl (.agg #[(.int .i64 ((m.turn : Nat) : Int)), (.slice x1 m.writes.length y1)]) (ex_load rfl (loadN (cs := [(.int .i64 ((m.turn : Nat) : Int)), (.slice x1 m.writes.length y1)]) Try.underlying50 rfl (size_50) (St.range S4 (i := 0) rfl 0 [(.int .i64 ((m.turn : Nat) : Int)), (.slice x1 m.writes.length y1)] (sub_range 0 rfl)))) ?_
 simp only [pS, pN, pA, pC, pZ]
 refine stTells (v := (.int .i64 0)) S4 rfl (ex_fn (vs := #[(.agg #[(.int .i64 ((m.turn : Nat) : Int)), (.slice x1 m.writes.length y1)])]) (map1 rfl) rfl (ent_40 _ _)) (tapeCheckOk_spec _ _ _ m (S4).sat ⟨_, _, rfl, h1⟩ hm) (fun w7 S8 => ?_)
 simp only [pS, pN, pA, pC, pZ]
 refine do_ rfl (.int .i64 0) (ex_assign _) ?_
 simp only [pS, pN, pA, pC, pZ]
 refine wl_nil (hK6 _ _ ?_)
 refine wp_seq_k (fun K9 hK9 => region_wl ?_)
 refine do_ rfl (.int .i64 0) (ex_move _) ?_
 simp only [pS, pN, pA, pC, pZ]
 refine do_ rfl (.bool false) (ex_neq (b := false) rfl rfl (by decide)) ?_
 simp only [pS, pN, pA, pC, pZ]
 refine wl_nil (hK9 _ _ ?_)
 refine wp_cond_false rfl ?_
 refine wp_skip ?_
 refine hK5 _ _ ?_
 refine wp_seq_k (fun K10 hK10 => region_wl ?_)
 refine do_ rfl (.pointer (some ⟨n2, 0, none⟩)) (ex_field (q := ⟨n2, 0, none⟩) rfl (fa_50_0 _ _)) ?_
 simp only [pS, pN, pA, pC, pZ]
 refine do_ rfl (.int .i64 ((m.turn : Nat) : Int)) (ex_load rfl (load1 (nagg_3 _) (St.cell S8 (i := 0) rfl rfl))) ?_
 simp only [pS, pN, pA, pC, pZ]
 refine do_ rfl (.int .i64 (((m.turn / 65536) : Nat) : Int)) (ex_shrN (m := m.turn) (n := 16) rfl rfl (by decide)) ?_
 simp only [pS, pN, pA, pC, pZ]
 refine do_ rfl (bv (b8 (m.turn / 65536))) (ex_convert (v := (.int .i64 (((m.turn / 65536) : Nat) : Int))) rfl (conv_b8 (m.turn / 65536) _)) ?_
 simp only [pS, pN, pA, pC, pZ]
 refine do_ rfl (.pointer (some ⟨n2, 0, none⟩)) (ex_field (q := ⟨n2, 0, none⟩) rfl (fa_50_0 _ _)) ?_
 simp only [pS, pN, pA, pC, pZ]
 refine do_ rfl (.int .i64 ((m.turn : Nat) : Int)) (ex_load rfl (load1 (nagg_3 _) (St.cell S8 (i := 0) rfl rfl))) ?_
 simp only [pS, pN, pA, pC, pZ]
 refine do_ rfl (.int .i64 (((m.turn / 256) : Nat) : Int)) (ex_shrN (m := m.turn) (n := 8) rfl rfl (by decide)) ?_
 simp only [pS, pN, pA, pC, pZ]
 refine do_ rfl (bv (b8 (m.turn / 256))) (ex_convert (v := (.int .i64 (((m.turn / 256) : Nat) : Int))) rfl (conv_b8 (m.turn / 256) _)) ?_
 simp only [pS, pN, pA, pC, pZ]
 refine do_ rfl (.pointer (some ⟨n2, 0, none⟩)) (ex_field (q := ⟨n2, 0, none⟩) rfl (fa_50_0 _ _)) ?_
 simp only [pS, pN, pA, pC, pZ]
 refine do_ rfl (.int .i64 ((m.turn : Nat) : Int)) (ex_load rfl (load1 (nagg_3 _) (St.cell S8 (i := 0) rfl rfl))) ?_
 simp only [pS, pN, pA, pC, pZ]
 refine do_ rfl (bv (b8 m.turn)) (ex_convert (v := (.int .i64 ((m.turn : Nat) : Int))) rfl (conv_b8 m.turn _)) ?_
 simp only [pS, pN, pA, pC, pZ]
 refine do_ rfl (.pointer (some ⟨n2, 1, none⟩)) (ex_field (q := ⟨n2, 1, none⟩) rfl (fa_50_1 _ _)) ?_
 simp only [pS, pN, pA, pC, pZ]
 refine do_ rfl (.slice x1 m.writes.length y1) (ex_load rfl (load1 (nagg_44 _) (St.cell S8 (i := 0) rfl rfl))) ?_
 simp only [pS, pN, pA, pC, pZ]
 refine do_ rfl (.int .i64 ((m.writes.length : Nat) : Int)) (ex_len Try.underlying44 rfl) ?_
 simp only [pS, pN, pA, pC, pZ]
 refine do_ rfl (bv (b8 m.writes.length)) (ex_convert (v := (.int .i64 ((m.writes.length : Nat) : Int))) rfl (conv_b8 m.writes.length _)) ?_
 simp only [pS, pN, pA, pC, pZ]
 refine stNew S8 (v := fun n => .slice (some ⟨n, 0, none⟩) 4 4) rfl (ex_lit (ps := #[(0, (bv (b8 (m.turn / 65536)))), (1, (bv (b8 (m.turn / 256)))), (2, (bv (b8 m.turn))), (3, (bv (b8 m.writes.length)))]) (cells := #[(bv (b8 (m.turn / 65536))), (bv (b8 (m.turn / 256))), (bv (b8 m.turn)), (bv (b8 m.writes.length))]) (E := 5) (bmap4 rfl rfl rfl rfl) (fun w => by kernel_rfl)) (fun n11 w12 S13 => ?_)
 simp only [pS, pN, pA, pC, pZ]
 have S13 : St w F w12 F [⟨n11, [(bv (b8 (m.turn / 65536))), (bv (b8 (m.turn / 256))), (bv (b8 m.turn)), (bv (b8 m.writes.length))], 5⟩, ⟨n2, [(.int .i64 ((m.turn : Nat) : Int)), (.slice x1 m.writes.length y1)], 50⟩] [] := S13
 refine do_ rfl (.slice (some ⟨n11, 0, none⟩) 4 4) (ex_assign _) ?_
 simp only [pS, pN, pA, pC, pZ]
 refine wl_nil (hK10 _ _ ?_)
 refine wp_seq_k (fun K14 hK14 => ?_)
 refine wp_seq_k (fun K15 hK15 => region_wl ?_)
 refine do_ rfl (.pointer (some ⟨n2, 1, none⟩)) (ex_field (q := ⟨n2, 1, none⟩) rfl (fa_50_1 _ _)) ?_
 simp only [pS, pN, pA, pC, pZ]
 refine do_ rfl (.slice x1 m.writes.length y1) (ex_load rfl (load1 (nagg_44 _) (St.cell S13 (i := 1) rfl rfl))) ?_
 simp only [pS, pN, pA, pC, pZ]
 refine do_ rfl (.int .i64 ((m.writes.length : Nat) : Int)) (ex_len Try.underlying44 rfl) ?_
 simp only [pS, pN, pA, pC, pZ]
 refine do_ rfl (.int .i64 0) (ex_move _) ?_
 simp only [pS, pN, pA, pC, pZ]
 refine wl_nil (hK15 _ _ ?_)
 refine wp_block ?_
 have S16 : St w F w12 F [⟨n2, [(.int .i64 ((m.turn : Nat) : Int)), (.slice x1 m.writes.length y1)], 50⟩] [ownP 1 ByC ByC.mono 5 w.heap.size (.slice (some ⟨n11, 0, none⟩) 4 4) (encHead m.turn m.writes.length)] := St.blkRow (k := 1) (l := (encHead m.turn m.writes.length)) (el := [[(bv (b8 (m.turn / 65536)))], [(bv (b8 (m.turn / 256)))], [(bv (b8 m.turn))], [(bv (b8 m.writes.length))]]) (hR := ByC.mono) S13 rfl ⟨rfl, rfl, rfl, rfl, trivial⟩ (by simp) rfl (by simp [encHead]) (by unfold maxLen; decide) (S13.blk _ (List.mem_cons_self ..)).2.2
 refine wp_loop_g (fun mm aa w19 => ∃ (k : Nat) (v : Value) (F17 : Fz) (u18 : Nat → Value), mm = m.writes.length - k ∧ u18 = slots aa ∧ aa = ⟨#[(.agg #[(.int .i64 ((m.turn : Nat) : Int)), (.slice x1 m.writes.length y1)]), (.pointer (some ⟨n2, 0, none⟩)), (.slice none 0 0), (.int .i64 0), (.int .i64 0), v, undef, (u18 7), (.agg #[(.int .i64 ((m.turn : Nat) : Int)), (.slice x1 m.writes.length y1)]), (.int .i64 0), (.int .i64 0), (.bool false), undef, (.pointer (some ⟨n2, 0, none⟩)), (.int .i64 ((m.turn : Nat) : Int)), (.int .i64 (((m.turn / 65536) : Nat) : Int)), (bv (b8 (m.turn / 65536))), (.pointer (some ⟨n2, 0, none⟩)), (.int .i64 ((m.turn : Nat) : Int)), (.int .i64 (((m.turn / 256) : Nat) : Int)), (bv (b8 (m.turn / 256))), (.pointer (some ⟨n2, 0, none⟩)), (.int .i64 ((m.turn : Nat) : Int)), (bv (b8 m.turn)), (.pointer (some ⟨n2, 1, none⟩)), (.slice x1 m.writes.length y1), (.int .i64 ((m.writes.length : Nat) : Int)), (bv (b8 m.writes.length)), (.slice (some ⟨n11, 0, none⟩) 4 4), (.pointer (some ⟨n2, 1, none⟩)), (.slice x1 m.writes.length y1), (.int .i64 ((m.writes.length : Nat) : Int)), (.int .i64 ((k : Nat) : Int)), (u18 33), (u18 34), (u18 35), (u18 36), (u18 37), (u18 38), (u18 39), (u18 40), (u18 41), (u18 42), (u18 43), (u18 44), (u18 45), (u18 46), (u18 47), (u18 48), (u18 49), (u18 50), (u18 51), (u18 52), undef], []⟩ ∧ St w F w19 F17 [⟨n2, [(.int .i64 ((m.turn : Nat) : Int)), (.slice x1 m.writes.length y1)], 50⟩] [ownP 1 ByC ByC.mono 5 w.heap.size v ((encHead m.turn m.writes.length) ++ (m.writes.take k).flatMap encWr)] ∧ Le F F17 ∧ (k ≤ m.writes.length)) _ ⟨0, (.slice (some ⟨n11, 0, none⟩) 4 4), F, _, rfl, rfl, rfl, S16, Le.refl _, (by omega)⟩ ?_
 rintro m20 a21 w22 ⟨k, v, F17, u18, rfl, -, rfl, S23, le24, hk⟩ K25 hK25
 refine wp_seq_k (fun K26 hK26 => region_wl ?_)
 by_cases hc33 : k < m.writes.length
 ·refine do_ rfl (.bool true) (ex_lss (m := ((k : Nat) : Int)) (n := ((m.writes.length : Nat) : Int)) (b := true) rfl rfl (decide_eq_true (by omega))) ?_
  simp only [pS, pN, pA, pC, pZ]
  refine wl_nil (hK26 _ _ ?_)
  refine wp_seq_k (fun K27 hK27 => ?_)
  refine wp_cond_true rfl ?_
  refine wp_skip ?_
  refine hK27 _ _ ?_
  refine wp_seq_k (fun K28 hK28 => ?_)
  refine wp_block ?_
  refine wp_seq_k (fun K29 hK29 => ?_)
  obtain ⟨p, hp⟩ : ∃ p, m.writes[k]? = some p := ⟨m.writes[k], List.getElem?_eq_getElem hc33⟩
  have hpo := hm.ok p (List.mem_of_getElem? hp)
  have hp1 := hpo.name.2
  have hp2 := hpo.key2
  have hp3 := hpo.value
  have hfl := enc_len (ws := m.writes.take k) (fun x hx => hm.ok x (List.mem_of_mem_take hx))
  rw [List.length_take] at hfl
  obtain ⟨b30, o31, ha32, xa34, xc35, xa38, xc39, xa43, xc44, c33, c37, c41, c42, r36, r40, r45⟩ := Wrs.get (h1.mono le24) hp
  refine region_wl ?_
  refine do_ rfl (.pointer (some ⟨b30, o31 + k * 4, none⟩)) (ex_at (i := k) (sz := 4) Try.underlying44 (sizeof_27 _) rfl ha32 rfl (by omega) rfl) ?_
  simp only [pS, pN, pA, pC, pZ]
  refine do_ rfl (.agg #[(.slice xa34 p.name.length xc35), (.slice xa38 p.key.length xc39), (.bool p.gone), (.slice xa43 p.value.length xc44)]) (ex_load rfl (loadN (cs := [(.slice xa34 p.name.length xc35), (.slice xa38 p.key.length xc39), (.bool p.gone), (.slice xa43 p.value.length xc44)]) Try.underlying27 rfl (size_27) (range4 (St.fz S23 c33) (St.fz S23 c37) (St.fz S23 c41) (St.fz S23 c42)))) ?_
  simp only [pS, pN, pA, pC, pZ]
  refine stNew S23 (v := fun n => .pointer (some ⟨n, 0, none⟩)) rfl (ex_alloc (zero_27 _)) (fun n46 w47 S48 => ?_)
  simp only [pS, pN, pA, pC, pZ]
  have S48 : St w F w47 F17 [⟨n46, [(.slice none 0 0), (.slice none 0 0), (.bool false), (.slice none 0 0)], 27⟩, ⟨n2, [(.int .i64 ((m.turn : Nat) : Int)), (.slice x1 m.writes.length y1)], 50⟩] [ownP 1 ByC ByC.mono 5 w.heap.size v ((encHead m.turn m.writes.length) ++ (m.writes.take k).flatMap encWr)] := S48
  refine stStore (i := 0) (v := (.agg #[(.slice xa34 p.name.length xc35), (.slice xa38 p.key.length xc39), (.bool p.gone), (.slice xa43 p.value.length xc44)])) S48 rfl rfl rfl rfl (size_27) (allc4 rfl rfl rfl rfl) (Nat.le_of_ble_eq_true rfl) (fun w49 S50 => ?_)
  simp only [pS, pN, pA, pC, pZ]
  have S50 : St w F w49 F17 [⟨n46, [(.slice xa34 p.name.length xc35), (.slice xa38 p.key.length xc39), (.bool p.gone), (.slice xa43 p.value.length xc44)], 27⟩, ⟨n2, [(.int .i64 ((m.turn : Nat) : Int)), (.slice x1 m.writes.length y1)], 50⟩] [ownP 1 ByC ByC.mono 5 w.heap.size v ((encHead m.turn m.writes.length) ++ (m.writes.take k).flatMap encWr)] := S50
  refine wl_nil (hK29 _ _ ?_)
  refine wp_seq_k (fun K51 hK51 => ?_)
  obtain ⟨S52, le53, hc54⟩ := St.freezeBlk S50 (i := 0) rfl
  generalize addF F17 w49 n46 = F55 at *
  have S52 : St w F w49 F55 [⟨n2, [(.int .i64 ((m.turn : Nat) : Int)), (.slice x1 m.writes.length y1)], 50⟩] [ownP 1 ByC ByC.mono 5 w.heap.size v ((encHead m.turn m.writes.length) ++ (m.writes.take k).flatMap encWr)] := S52
  refine region_hl S52 (by kernel_rfl) (fun w57 S56 => ?_)
  refine hl_take 0 rfl (by kernel_rfl) (v := v) (fun _ _ _ h => h) S56.sat rfl (fun w58 hs59 => ex_move _) ?_
  simp only [pS, pN, pA, pC, pZ]
  refine hl_take 1 rfl (by kernel_rfl) (v := (.pointer (some ⟨n46, 0, none⟩))) (fun _ _ _ h => h) S56.sat rfl (fun w60 hs61 => ex_field (q := ⟨n46, 0, none⟩) rfl (fa_27_0 _ _)) ?_
  simp only [pS, pN, pA, pC, pZ]
  refine hl_take 2 rfl (by kernel_rfl) (v := (.slice xa34 p.name.length xc35)) (fun _ _ _ h => h) S56.sat rfl (fun w62 hs63 => ex_load rfl (load1 (nagg_25 _) (St.fz (St.start hs63) (hc54 0 _ rfl)))) ?_
  simp only [pS, pN, pA, pC, pZ]
  refine hl_take 4 rfl (by kernel_rfl) (v := (.pointer (some ⟨n46, 1, none⟩))) (fun _ _ _ h => h) S56.sat rfl (fun w64 hs65 => ex_field (q := ⟨n46, 1, none⟩) rfl (fa_27_1 _ _)) ?_
  simp only [pS, pN, pA, pC, pZ]
  refine hl_take 5 rfl (by kernel_rfl) (v := (.slice xa38 p.key.length xc39)) (fun _ _ _ h => h) S56.sat rfl (fun w66 hs67 => ex_load rfl (load1 (nagg_25 _) (St.fz (St.start hs67) (hc54 1 _ rfl)))) ?_
  simp only [pS, pN, pA, pC, pZ]
  refine hl_next 3 (by kernel_rfl) rfl ?_
  refine stOwn (L := [⟨n2, [(.int .i64 ((m.turn : Nat) : Int)), (.slice x1 m.writes.length y1)], 50⟩]) (M := fun v_ => [ownP 1 ByC ByC.mono 5 w.heap.size v_ (((encHead m.turn m.writes.length) ++ (m.writes.take k).flatMap encWr) ++ encPart p.name)]) rfl (ex_fn (vs := #[v, (.slice xa34 p.name.length xc35)]) (map2 rfl rfl) rfl (ent_62 _ _)) (part_spec S56 (r36.mono le53) (by simp only [List.length_append, encPart_len, encHead, List.length_cons, List.length_nil]; omega) (by omega)) ?_
  intro v68 w69 S70
  simp only [pS, pN, pA, pC, pZ]
  refine wl_nil (hl_back S70.sat ?_)
  refine hl_next 6 (by kernel_rfl) rfl ?_
  refine stOwn (L := [⟨n2, [(.int .i64 ((m.turn : Nat) : Int)), (.slice x1 m.writes.length y1)], 50⟩]) (M := fun v_ => [ownP 1 ByC ByC.mono 5 w.heap.size v_ ((((encHead m.turn m.writes.length) ++ (m.writes.take k).flatMap encWr) ++ encPart p.name) ++ encPart p.key)]) rfl (ex_fn (vs := #[v68, (.slice xa38 p.key.length xc39)]) (map2 rfl rfl) rfl (ent_62 _ _)) (part_spec S70 (r40.mono le53) (by simp only [List.length_append, encPart_len, encHead, List.length_cons, List.length_nil]; omega) (by omega)) ?_
  intro v71 w72 S73
  simp only [pS, pN, pA, pC, pZ]
  refine wl_nil (hl_back S73.sat ?_)
  refine hl_take 7 rfl (by kernel_rfl) (v := v71) (fun _ _ _ h => h) S73.sat rfl (fun w74 hs75 => ex_assign _) ?_
  simp only [pS, pN, pA, pC, pZ]
  refine hl_done (by kernel_rfl) ?_
  refine hK51 _ _ ?_
  refine wp_seq_k (fun K76 hK76 => ?_)
  refine wp_seq_k (fun K77 hK77 => region_wl ?_)
  refine do_ rfl (.pointer (some ⟨n46, 2, none⟩)) (ex_field (q := ⟨n46, 2, none⟩) rfl (fa_27_2 _ _)) ?_
  simp only [pS, pN, pA, pC, pZ]
  refine do_ rfl (.bool p.gone) (ex_load rfl (load1 (nagg_4 _) (St.fz S73 (hc54 2 _ rfl)))) ?_
  simp only [pS, pN, pA, pC, pZ]
  refine wl_nil (hK77 _ _ ?_)
  refine wp_cond_split rfl (fun hc78 => ?_) (fun hc78 => ?_)
  ·refine wp_seq_k (fun K79 hK79 => region_wl ?_)
   refine do_ rfl v71 (ex_move _) ?_
   simp only [pS, pN, pA, pC, pZ]
   refine stNew S73 (v := fun n => .slice (some ⟨n, 0, none⟩) 1 1) rfl (ex_lit (ps := #[(0, (.int .u8 255))]) (cells := #[(.int .u8 255)]) (E := 5) (bmap1 rfl) (fun w => by kernel_rfl)) (fun n80 w81 S82 => ?_)
   simp only [pS, pN, pA, pC, pZ]
   have S82 : St w F w81 F55 [⟨n80, [(.int .u8 255)], 5⟩, ⟨n2, [(.int .i64 ((m.turn : Nat) : Int)), (.slice x1 m.writes.length y1)], 50⟩] [ownP 1 ByC ByC.mono 5 w.heap.size v71 ((((encHead m.turn m.writes.length) ++ (m.writes.take k).flatMap encWr) ++ encPart p.name) ++ encPart p.key)] := S82
   refine stPush (i := 0) (r := 0) (p := (255 : UInt8)) (cs := [(.int .u8 255)]) S82 rfl i5 (.int .u8 0) 1 Try.underlying25 hi5 hz5 hs5 hb5 rfl (by decide) rfl rfl rfl rfl rfl (bv_one 255) (rfl) (Nat.le_refl _) S82.gr.below.size (by unfold maxLen; simp only [List.length_append, encPart_len, encHead, List.length_cons, List.length_nil]; omega) (by simp only [List.length_append, encPart_len, encHead, List.length_cons, List.length_nil]; omega) ?_
   intro v83 w84 S85 hn86
   simp only [pS, pN, pA, pC, pZ]
   have S85 := St.drop S85 (L' := [⟨n2, [(.int .i64 ((m.turn : Nat) : Int)), (.slice x1 m.writes.length y1)], 50⟩]) (.cons _ (List.Sublist.refl _))
   have S85 : St w F w84 F55 [⟨n2, [(.int .i64 ((m.turn : Nat) : Int)), (.slice x1 m.writes.length y1)], 50⟩] [ownP 1 ByC ByC.mono 5 w.heap.size v83 (((((encHead m.turn m.writes.length) ++ (m.writes.take k).flatMap encWr) ++ encPart p.name) ++ encPart p.key) ++ [(255 : UInt8)])] := S85
   refine do_ rfl v83 (ex_assign _) ?_
   simp only [pS, pN, pA, pC, pZ]
   refine wl_nil (hK79 _ _ ?_)
   refine wp_exit ?_
   refine hK28 _ _ ?_
   refine region_wl ?_
   refine do_ rfl (.int .i64 (((k + 1) : Nat) : Int)) (ex_add (m := ((k : Nat) : Int)) (n := (1 : Int)) (r := (((k + 1) : Nat) : Int)) rfl rfl (by omega) (by omega) (by omega)) ?_
   simp only [pS, pN, pA, pC, pZ]
   refine do_ rfl (.int .i64 (((k + 1) : Nat) : Int)) (ex_move _) ?_
   simp only [pS, pN, pA, pC, pZ]
   refine wl_nil ?_
   rw [enc_gone hp (by simpa using hc78)] at S85
   exact hK25 _ _ _ (by omega) ⟨(k + 1), v83, F55, _, rfl, rfl, rfl, S85, (le24.trans le53), (by omega)⟩
  ·refine wp_skip ?_
   refine hK76 _ _ ?_
   refine region_wl ?_
   refine do_ rfl v71 (ex_move _) ?_
   simp only [pS, pN, pA, pC, pZ]
   refine do_ rfl (.pointer (some ⟨n46, 3, none⟩)) (ex_field (q := ⟨n46, 3, none⟩) rfl (fa_27_3 _ _)) ?_
   simp only [pS, pN, pA, pC, pZ]
   refine do_ rfl (.slice xa43 p.value.length xc44) (ex_load rfl (load1 (nagg_25 _) (St.fz S73 (hc54 3 _ rfl)))) ?_
   simp only [pS, pN, pA, pC, pZ]
   refine stOwn (L := [⟨n2, [(.int .i64 ((m.turn : Nat) : Int)), (.slice x1 m.writes.length y1)], 50⟩]) (M := fun v_ => [ownP 1 ByC ByC.mono 5 w.heap.size v_ (((((encHead m.turn m.writes.length) ++ (m.writes.take k).flatMap encWr) ++ encPart p.name) ++ encPart p.key) ++ encPart p.value)]) rfl (ex_fn (vs := #[v71, (.slice xa43 p.value.length xc44)]) (map2 rfl rfl) rfl (ent_62 _ _)) (part_spec S73 (r45.mono le53) (by simp only [List.length_append, encPart_len, encHead, List.length_cons, List.length_nil]; omega) (by omega)) ?_
   intro v87 w88 S89
   simp only [pS, pN, pA, pC, pZ]
   refine do_ rfl v87 (ex_assign _) ?_
   simp only [pS, pN, pA, pC, pZ]
   refine wl_nil (hK28 _ _ ?_)
   refine region_wl ?_
   refine do_ rfl (.int .i64 (((k + 1) : Nat) : Int)) (ex_add (m := ((k : Nat) : Int)) (n := (1 : Int)) (r := (((k + 1) : Nat) : Int)) rfl rfl (by omega) (by omega) (by omega)) ?_
   simp only [pS, pN, pA, pC, pZ]
   refine do_ rfl (.int .i64 (((k + 1) : Nat) : Int)) (ex_move _) ?_
   simp only [pS, pN, pA, pC, pZ]
   refine wl_nil ?_
   rw [enc_val hp (by simpa using hc78)] at S89
   exact hK25 _ _ _ (by omega) ⟨(k + 1), v87, F55, _, rfl, rfl, rfl, S89, (le24.trans le53), (by omega)⟩
 ·refine do_ rfl (.bool false) (ex_lss (m := ((k : Nat) : Int)) (n := ((m.writes.length : Nat) : Int)) (b := false) rfl rfl (decide_eq_false (by omega))) ?_
  simp only [pS, pN, pA, pC, pZ]
  refine wl_nil (hK26 _ _ ?_)
  refine wp_seq_k (fun K90 hK90 => ?_)
  refine wp_cond_false rfl ?_
  refine wp_exit ?_
  refine hK14 _ _ ?_
  refine wp_seq_k (fun K91 hK91 => region_wl ?_)
  refine do_ rfl v (ex_move _) ?_
  simp only [pS, pN, pA, pC, pZ]
  refine do_ rfl v (ex_assign _) ?_
  simp only [pS, pN, pA, pC, pZ]
  refine do_ rfl (.int .i64 0) (ex_assign _) ?_
  simp only [pS, pN, pA, pC, pZ]
  refine wl_nil (hK91 _ _ ?_)
  refine wp_ret ?_
  (try simp only [Exit.then, Exit.inBlock, ↓reduceIte, Nat.reduceEqDiff])
  refine bodyPost_ret (v := (.tuple #[v, (.int .i64 0)])) ?_ rfl ?_
  ·exact res_tt rfl rfl rfl
  ·have hend : m.writes.take k = m.writes := List.take_of_length_le (by omega)
   rw [hend] at S23
   obtain ⟨F92, S93, le94, hv95⟩ := St.freeze S23 (i := 0) rfl (Nat.le_refl _)
   have S93 : St w F w22 F92 [⟨n2, [(.int .i64 ((m.turn : Nat) : Int)), (.slice x1 m.writes.length y1)], 50⟩] [] := S93
   have hv95 : Bys _ v ((encHead m.turn m.writes.length) ++ m.writes.flatMap encWr) := hv95
   exact ⟨_, _, rfl, S93.gr, _, rfl, bs_of_sl hv95⟩
set_option maxHeartbeats 8000000 in
theorem tapeCheckNil_spec (F : Fz) (w : World) (v : Value) (m : Cm) (hs : Sat w F) (hv : CmV F v m) (hmt : 1 ≤ m.turn ∧ m.turn ≤ 1048576) (hz : m.writes.length = 0) :
    Calls Try.prog 40 #[v] w (Tells w (.int .i64 1)) := by
 obtain ⟨x1, y1, rfl, h1⟩ := hv
 obtain ⟨_, _, e1, q2, q3⟩ := Sl.shape h1
 injection e1 with _ _ e1
 subst e1
 unfold maxLen at q3
 have S := St.start hs
 go_enter Try.func40, Try.ntmps40
 refine wp_seq_k (fun K1 hK1 => region_wl ?_)
 refine stNew S (v := fun n => .pointer (some ⟨n, 0, none⟩)) rfl (ex_box (v := (.agg #[(.int .i64 ((m.turn : Nat) : Int)), (.slice x1 m.writes.length y1)])) rfl) (fun n2 w3 S4 => ?_)
 simp only [pS, pN, pA, pC, pZ]
 have S4 : St w F w3 F [⟨n2, [(.int .i64 ((m.turn : Nat) : Int)), (.slice x1 m.writes.length y1)], 50⟩] [] := S4
 refine do_ rfl (.int .i64 0) (ex_assign _) ?_
 simp only [pS, pN, pA, pC, pZ]
 refine wl_nil (hK1 _ _ ?_)
 refine wp_seq_k (fun K5 hK5 => ?_)
 refine wp_seq_k (fun K6 hK6 => region_wl ?_)
 refine do_ rfl (.pointer (some ⟨n2, 0, none⟩)) (ex_field (q := ⟨n2, 0, none⟩) rfl (fa_50_0 _ _)) ?_
 simp only [pS, pN, pA, pC, pZ]
 refine do_ rfl (.int .i64 ((m.turn : Nat) : Int)) (ex_load rfl (load1 (nagg_3 _) (St.cell S4 (i := 0) rfl rfl))) ?_
 simp only [pS, pN, pA, pC, pZ]
 refine do_ rfl (.bool false) (ex_lss (m := ((m.turn : Nat) : Int)) (n := (1 : Int)) (b := false) rfl rfl (decide_eq_false (by omega))) ?_
 simp only [pS, pN, pA, pC, pZ]
 refine do_ rfl (.bool false) (ex_move _) ?_
 simp only [pS, pN, pA, pC, pZ]
 refine do_ rfl (.pointer (some ⟨n2, 0, none⟩)) (ex_field (q := ⟨n2, 0, none⟩) rfl (fa_50_0 _ _)) ?_
 simp only [pS, pN, pA, pC, pZ]
 refine do_ rfl (.int .i64 ((m.turn : Nat) : Int)) (ex_load rfl (load1 (nagg_3 _) (St.cell S4 (i := 0) rfl rfl))) ?_
 simp only [pS, pN, pA, pC, pZ]
 refine do_ rfl (.bool false) (ex_gtr (m := ((m.turn : Nat) : Int)) (n := (1048576 : Int)) (b := false) rfl rfl (decide_eq_false (by omega))) ?_
 simp only [pS, pN, pA, pC, pZ]
 refine do_ rfl (.bool false) (ex_pick (b := false) rfl) ?_
 simp only [pS, pN, pA, pC, pZ]
 refine wl_nil (hK6 _ _ ?_)
 refine wp_cond_false rfl ?_
 refine wp_skip ?_
 refine hK5 _ _ ?_
 refine wp_seq_k (fun K7 hK7 => ?_)
 refine wp_seq_k (fun K8 hK8 => region_wl ?_)
 refine do_ rfl (.pointer (some ⟨n2, 1, none⟩)) (ex_field (q := ⟨n2, 1, none⟩) rfl (fa_50_1 _ _)) ?_
 simp only [pS, pN, pA, pC, pZ]
 refine do_ rfl (.slice x1 m.writes.length y1) (ex_load rfl (load1 (nagg_44 _) (St.cell S4 (i := 0) rfl rfl))) ?_
 simp only [pS, pN, pA, pC, pZ]
 refine do_ rfl (.int .i64 ((m.writes.length : Nat) : Int)) (ex_len Try.underlying44 rfl) ?_
 simp only [pS, pN, pA, pC, pZ]
 refine do_ rfl (.bool true) (ex_lss (m := ((m.writes.length : Nat) : Int)) (n := (1 : Int)) (b := true) rfl rfl (decide_eq_true (by omega))) ?_
 simp only [pS, pN, pA, pC, pZ]
 refine wl_nil (hK8 _ _ ?_)
 refine wp_cond_true rfl ?_
 refine wp_seq_k (fun K9 hK9 => region_wl ?_)
 refine do_ rfl (.int .i64 1) (ex_assign _) ?_
 simp only [pS, pN, pA, pC, pZ]
 refine wl_nil (hK9 _ _ ?_)
 refine wp_ret ?_
 (try simp only [Exit.then, Exit.inBlock, ↓reduceIte, Nat.reduceEqDiff])
 refine bodyPost_ret (v := (.int .i64 1)) ?_ rfl ?_
 ·exact res_t rfl rfl
 ·exact ⟨rfl, S4.gr.below⟩
set_option maxHeartbeats 8000000 in
theorem encodeNil_spec (F : Fz) (w : World) (v : Value) (m : Cm) (hs : Sat w F) (hv : CmV F v m) (hmt : 1 ≤ m.turn ∧ m.turn ≤ 1048576) (hz : m.writes.length = 0) :
    Calls Try.prog 26 #[v] w (Gives w F (EncR [] 1)) := by
 obtain ⟨x1, y1, rfl, h1⟩ := hv
 obtain ⟨_, _, e1, q2, q3⟩ := Sl.shape h1
 injection e1 with _ _ e1
 subst e1
 unfold maxLen at q3
 have S := St.start hs
 go_enter Try.func26, Try.ntmps26
 refine wp_seq_k (fun K1 hK1 => region_wl ?_)
 refine stNew S (v := fun n => .pointer (some ⟨n, 0, none⟩)) rfl (ex_box (v := (.agg #[(.int .i64 ((m.turn : Nat) : Int)), (.slice x1 m.writes.length y1)])) rfl) (fun n2 w3 S4 => ?_)
 simp only [pS, pN, pA, pC, pZ]
 have S4 : St w F w3 F [⟨n2, [(.int .i64 ((m.turn : Nat) : Int)), (.slice x1 m.writes.length y1)], 50⟩] [] := S4
 refine do_ rfl (.slice none 0 0) (ex_assign _) ?_
 simp only [pS, pN, pA, pC, pZ]
 refine do_ rfl (.int .i64 0) (ex_assign _) ?_
 simp only [pS, pN, pA, pC, pZ]
 refine wl_nil (hK1 _ _ ?_)
 refine wp_seq_k (fun K5 hK5 => ?_)
 refine wp_seq_k (fun K6 hK6 => region_wl ?_)
 refine do_ rfl (.agg #[(.int .i64 ((m.turn : Nat) : Int)), (.slice x1 m.writes.length y1)]) (ex_load rfl (loadN (cs := [(.int .i64 ((m.turn : Nat) : Int)), (.slice x1 m.writes.length y1)]) Try.underlying50 rfl (size_50) (St.range S4 (i := 0) rfl 0 [(.int .i64 ((m.turn : Nat) : Int)), (.slice x1 m.writes.length y1)] (sub_range 0 rfl)))) ?_
 simp only [pS, pN, pA, pC, pZ]
 refine stTells (v := (.int .i64 1)) S4 rfl (ex_fn (vs := #[(.agg #[(.int .i64 ((m.turn : Nat) : Int)), (.slice x1 m.writes.length y1)])]) (map1 rfl) rfl (ent_40 _ _)) (tapeCheckNil_spec _ _ _ m (S4).sat ⟨_, _, rfl, h1⟩ hmt hz) (fun w7 S8 => ?_)
 simp only [pS, pN, pA, pC, pZ]
 refine do_ rfl (.int .i64 1) (ex_assign _) ?_
 simp only [pS, pN, pA, pC, pZ]
 refine wl_nil (hK6 _ _ ?_)
 refine wp_seq_k (fun K9 hK9 => region_wl ?_)
 refine do_ rfl (.int .i64 1) (ex_move _) ?_
 simp only [pS, pN, pA, pC, pZ]
 refine do_ rfl (.bool true) (ex_neq (b := true) rfl rfl (by decide)) ?_
 simp only [pS, pN, pA, pC, pZ]
 refine wl_nil (hK9 _ _ ?_)
 refine wp_cond_true rfl ?_
 refine wp_seq_k (fun K10 hK10 => region_wl ?_)
 refine do_ rfl (.int .i64 1) (ex_move _) ?_
 simp only [pS, pN, pA, pC, pZ]
 refine do_ rfl (.slice none 0 0) (ex_assign _) ?_
 simp only [pS, pN, pA, pC, pZ]
 refine do_ rfl (.int .i64 1) (ex_assign _) ?_
 simp only [pS, pN, pA, pC, pZ]
 refine wl_nil (hK10 _ _ ?_)
 refine wp_ret ?_
 (try simp only [Exit.then, Exit.inBlock, ↓reduceIte, Nat.reduceEqDiff])
 refine bodyPost_ret (v := (.tuple #[(.slice none 0 0), (.int .i64 1)])) ?_ rfl ?_
 ·exact res_tt rfl rfl rfl
 ·exact ⟨_, _, rfl, S8.gr, _, rfl, Bs.nil _⟩
theorem Bs.get {F : Fz} {a : Option Addr} {n c : Nat} {l : By} (h : Bs F (.slice a n c) l) {i : Nat} {b : UInt8} (hb : l[i]? = some b) : ∃ g o, a = some ⟨g, o, none⟩ ∧ cellF F g (o + i * 1) = some (bv b) := by
  obtain ⟨a', c', e, _, _, _, h5⟩ := h
  injection e with e1 _ _
  subst e1
  rcases h5 with h5 | ⟨g, o, e, h6⟩
  · rw [List.map_eq_nil_iff] at h5
    subst h5; cases hb
  · exact ⟨g, o, e, by rw [Nat.mul_one]; exact h6 i (bv b) (by rw [List.getElem?_map, hb]; rfl)⟩
theorem ex_shlN {P : Program} {ρ : Operand → Value} {w : World} {d : Option Tmp} {t X Y : TypeId} {x y : Operand} {pos : String} {after : Array Edge} {guard : Option (Nat × Bool)} {m n r : Nat} (hx : ρ x = .int .i64 (m : Int)) (hy : ρ y = .int .u64 (n : Int)) (hn : n ≤ 64) (e : m * 2 ^ n = r) (hr : r ≤ 9223372036854775807) : (execOp ρ ⟨d, .binOp .shl X x y Y, t, pos, after, guard⟩).run P w = .ok (.value (.int .i64 ((r : Nat) : Int))) w := by
  subst e
  refine ex_shr (.inr rfl) hx hy ?_
  show (Op.shift .shl .i64 (m : Int) .u64 (n : Int)).run P w = _
  unfold Op.shift
  rw [if_neg (by omega)]
  show Result.ok (Value.int .i64 (IntKind.i64.wrap ((m : Int) * 2 ^ (min (n : Int).toNat 64)))) w = _
  rw [Int.toNat_natCast, Nat.min_eq_left hn]
  have : (m : Int) * 2 ^ n = ((m * 2 ^ n : Nat) : Int) := by simp
  rw [this, wrap64_in (by omega) (by omega)]
theorem ex_orN {P : Program} {ρ : Operand → Value} {w : World} {d : Option Tmp} {t X Y : TypeId} {x y : Operand} {pos : String} {after : Array Edge} {guard : Option (Nat × Bool)} {m n r : Nat} (hx : ρ x = .int .i64 (m : Int)) (hy : ρ y = .int .i64 (n : Int)) (hm : m < 9223372036854775808) (hn : n < 9223372036854775808) (e : m ||| n = r) : (execOp ρ ⟨d, .binOp .or X x y Y, t, pos, after, guard⟩).run P w = .ok (.value (.int .i64 ((r : Nat) : Int))) w := by
  subst e
  refine ex_bin hx hy ?_
  rw [run_binInt _ (by simp)]
  show Result.ok (Value.int .i64 (IntKind.i64.wrap ((BitVec.ofInt 64 (m : Int) ||| BitVec.ofInt 64 (n : Int)).toNat : Int))) w = _
  have h1 : (BitVec.ofInt 64 (m : Int) ||| BitVec.ofInt 64 (n : Int)).toNat = m ||| n := by
    rw [BitVec.toNat_or, BitVec.ofInt_natCast, BitVec.ofInt_natCast, BitVec.toNat_ofNat, BitVec.toNat_ofNat, Nat.mod_eq_of_lt (by omega), Nat.mod_eq_of_lt (by omega)]
  have h2 : m ||| n < 2 ^ 63 := Nat.or_lt_two_pow (by omega) (by omega)
  rw [h1, wrap64_in (by omega) (by omega)]
theorem or16 (x y : Nat) (h : y < 256) : x * 65536 ||| y * 256 = x * 65536 + y * 256 := by
  have := Nat.two_pow_add_eq_or_of_lt (i := 16) (b := y * 256) (by omega) x
  rw [show 2 ^ 16 * x = x * 65536 from by omega] at this
  exact this.symm
theorem or8 (x y z : Nat) (h : z < 256) : (x * 65536 + y * 256) ||| z = x * 65536 + y * 256 + z := by
  have := Nat.two_pow_add_eq_or_of_lt (i := 8) (b := z) (by omega) (x * 256 + y)
  rw [show 2 ^ 8 * (x * 256 + y) = x * 65536 + y * 256 from by omega] at this
  exact this.symm
theorem enc3 {k : Nat} (h : k < 16777216) : (b8 (k / 65536)).toNat * 65536 + (b8 (k / 256)).toNat * 256 + (b8 k).toNat = k := by
  rw [b8_toNat (by omega)]
  have e1 : (b8 (k / 256)).toNat = k / 256 % 256 := by simp [b8]
  have e2 : (b8 k).toNat = k % 256 := by simp [b8]
  omega
end Go.Proofs.Ytcpngkkconalhaa
namespace Go.Proofs.Ytcpngkkconalhaa
open Go.RowKit
set_option maxRecDepth 100000
set_option linter.unusedVariables false
set_option linter.unusedSimpArgs false
theorem St.front {w0 w : World} {F0 F : Fz} {L : List Blk} {M : List RowP} (S : St w0 F0 w F L M) {i : Nat} {b : Blk} (h : L[i]? = some b) : St w0 F0 w F (b :: L.eraseIdx i) M := by
  obtain ⟨hi, rfl⟩ := List.getElem?_eq_some_iff.1 h
  have hp : (L[i] :: L.eraseIdx i).Perm L := by
    have h1 : L.take i ++ L[i] :: L.drop (i + 1) = L := by rw [← List.drop_eq_getElem_cons hi, List.take_append_drop]
    rw [List.eraseIdx_eq_take_drop_succ]
    exact List.perm_middle.symm.trans (List.Perm.of_eq h1)
  exact ⟨S.gr, fun x hx => S.blk x (hp.mem_iff.1 hx), S.row, (hp.pairwise_iff (fun h => Ne.symm h)).2 S.bb, fun r hr x hx => S.rb r hr x (hp.mem_iff.1 hx), S.rr⟩
theorem Bs.cut {F : Fz} {a : Option Addr} {m c n : Nat} {l : By} (h : Bs F (.slice a m c) l) (hn : n ≤ m) : Bs F (.slice a n n) (l.take n) := by
  have hm := h.len
  obtain ⟨a', c0, e, q1, _⟩ := h.shape
  injection e with _ _ e
  have := bs_of_sl (Sl.cap (c' := n) (Sl.takeN (m := n) h.sl hn) (Nat.le_refl _) (by omega))
  exact this
theorem Bs.rest {F : Fz} {a : Option Addr} {m c n : Nat} {l : By} (h : Bs F (.slice a m c) l) (hn : n ≤ m) : Bs F (.slice (if c = n then a else a.map (·.add (n * 1))) (m - n) (c - n)) (l.drop n) := bs_of_sl (Sl.dropAny (by decide) h.sl hn)
theorem takeR_len (n : Nat) (r : Rr) : (takeR n r).1.length = n := by
  unfold takeR
  split
  · simp
  · rename_i h
    have : ¬ r.rest.length < n := fun k => h (.inr k)
    simp; omega
theorem takeR_bad {n : Nat} {r : Rr} (h : r.short = true ∨ r.rest.length < n) : takeR n r = (List.replicate n 0, ⟨r.rest, true⟩) := by unfold takeR; rw [if_pos h]
theorem takeR_good {n : Nat} {r : Rr} (h1 : r.short = false) (h2 : ¬ r.rest.length < n) : takeR n r = (r.rest.take n, ⟨r.rest.drop n, false⟩) := by unfold takeR; rw [if_neg (by rw [h1]; simpa using h2)]
theorem takeR_less (n : Nat) (r : Rr) : (takeR n r).2.rest.length ≤ r.rest.length := by
  unfold takeR
  split
  · exact Nat.le_refl _
  · simp
/-- What taking from a reader in a block of the caller's own leaves. -/
def TakeP (w0 : World) (F0 F : Fz) (rb : Nat) (T : TypeId) (L0 : List Blk) (M0 : List RowP) (x : By × Rr) (e : Ending) (w' : World) : Prop := ∃ v a' c' F', e = .returned v ∧ Le F F' ∧ St w0 F0 w' F' (⟨rb, [.slice a' x.2.rest.length c', .bool x.2.short], T⟩ :: L0) M0 ∧ Bs F' (.slice a' x.2.rest.length c') x.2.rest ∧ Bs F' v x.1
def ByteP (w0 : World) (F0 F : Fz) (rb : Nat) (T : TypeId) (L0 : List Blk) (M0 : List RowP) (x : Nat × Rr) (e : Ending) (w' : World) : Prop := ∃ a' c' F', e = .returned (.int .i64 ((x.1 : Nat) : Int)) ∧ Le F F' ∧ St w0 F0 w' F' (⟨rb, [.slice a' x.2.rest.length c', .bool x.2.short], T⟩ :: L0) M0 ∧ Bs F' (.slice a' x.2.rest.length c') x.2.rest
theorem stTake {P : Program} {w0 w : World} {F0 F : Fz} {rb : Nat} {T : TypeId} {L0 : List Blk} {M0 : List RowP} {x : By × Rr} {ops : Array Oper} {Q : Exit → Act → World → Prop} {a : Act} {rest : List Oper} {o : Oper} {k : FuncId} {vs : Array Value} (hw : Region.wanted o (yielded ops a.tmps) = true)
    (hr : (execOp a.eval o).run P w = .ok (.enter k vs) w) (hc : Calls P k vs w (TakeP w0 F0 F rb T L0 M0 x))
    (h : ∀ v a' c' w' F', Le F F' → St w0 F0 w' F' (⟨rb, [.slice a' x.2.rest.length c', .bool x.2.short], T⟩ :: L0) M0 → Bs F' (.slice a' x.2.rest.length c') x.2.rest → Bs F' v x.1 → WL P ops Q rest (a.put o.dst v) w') : WL P ops Q (o :: rest) a w :=
  doC hw hr hc fun e w' ⟨v, a', c', F', he, hl, hS, hb, hv⟩ => ⟨v, he, h v a' c' w' F' hl hS hb hv⟩
theorem stByte {P : Program} {w0 w : World} {F0 F : Fz} {rb : Nat} {T : TypeId} {L0 : List Blk} {M0 : List RowP} {x : Nat × Rr} {ops : Array Oper} {Q : Exit → Act → World → Prop} {a : Act} {rest : List Oper} {o : Oper} {k : FuncId} {vs : Array Value} (hw : Region.wanted o (yielded ops a.tmps) = true)
    (hr : (execOp a.eval o).run P w = .ok (.enter k vs) w) (hc : Calls P k vs w (ByteP w0 F0 F rb T L0 M0 x))
    (h : ∀ a' c' w' F', Le F F' → St w0 F0 w' F' (⟨rb, [.slice a' x.2.rest.length c', .bool x.2.short], T⟩ :: L0) M0 → Bs F' (.slice a' x.2.rest.length c') x.2.rest → WL P ops Q rest (a.put o.dst (.int .i64 ((x.1 : Nat) : Int))) w') : WL P ops Q (o :: rest) a w :=
  doC hw hr hc fun e w' ⟨a', c', F', he, hl, hS, hb⟩ => ⟨_, he, h a' c' w' F' hl hS hb⟩
set_option maxHeartbeats 8000000 in
theorem take_spec {w0 w : World} {F0 F : Fz} {L0 : List Blk} {M0 : List RowP} {rb : Nat} {a : Option Addr} {c : Nat} {r : Rr} {n : Nat}
    (S : St w0 F0 w F (⟨rb, [.slice a r.rest.length c, .bool r.short], 120⟩ :: L0) M0) (hr : Bs F (.slice a r.rest.length c) r.rest) (hn : n ≤ 1000) (hl : r.rest.length ≤ 100000) :
    Calls Try.prog 72 #[.pointer (some ⟨rb, 0, none⟩), .int .i64 ((n : Nat) : Int)] w (TakeP w0 F0 F rb 120 L0 M0 (takeR n r)) := by
 obtain ⟨_, _, e, hc1, hc2⟩ := hr.shape
 injection e with _ _ e
 subst e
 unfold maxLen at hc2
 obtain ⟨i5, hi5, hz5, hs5, hb5⟩ := info_parts infoU8
 go_enter Try.func72, Try.ntmps72
 refine wp_seq_k (fun K1 hK1 => region_wl ?_)
 refine do_ rfl (.slice none 0 0) (ex_assign _) ?_
 simp only [pS, pN, pA, pC, pZ]
 refine wl_nil (hK1 _ _ ?_)
 refine wp_seq_k (fun K2 hK2 => ?_)
 refine wp_seq_k (fun K3 hK3 => ?_)
 cases hsr : r.short with
 | true =>
  rw [hsr] at S
  refine region_wl ?_
  refine do_ rfl (.pointer (some ⟨rb, 0, none⟩)) (ex_move _) ?_
  simp only [pS, pN, pA, pC, pZ]
  refine do_ rfl (.pointer (some ⟨rb, 0, none⟩)) (ex_nil rfl) ?_
  simp only [pS, pN, pA, pC, pZ]
  refine do_ rfl (.pointer (some ⟨rb, 1, none⟩)) (ex_field (q := ⟨rb, 1, none⟩) rfl (fa_120_1 _ _)) ?_
  simp only [pS, pN, pA, pC, pZ]
  refine do_ rfl (.bool true) (ex_load rfl (load1 (nagg_4 _) (St.cell S (i := 0) rfl rfl))) ?_
  simp only [pS, pN, pA, pC, pZ]
  refine do_ rfl (.bool true) (ex_move _) ?_
  simp only [pS, pN, pA, pC, pZ]
  refine doN (wanted_no rfl rfl rfl (c := true) rfl (by decide)) ?_
  simp only [pS, pN, pA, pC, pZ]
  refine doN (wanted_no rfl rfl rfl (c := true) rfl (by decide)) ?_
  simp only [pS, pN, pA, pC, pZ]
  refine doN (wanted_no rfl rfl rfl (c := true) rfl (by decide)) ?_
  simp only [pS, pN, pA, pC, pZ]
  refine doN (wanted_no rfl rfl rfl (c := true) rfl (by decide)) ?_
  simp only [pS, pN, pA, pC, pZ]
  refine doN (wanted_no rfl rfl rfl (c := true) rfl (by decide)) ?_
  simp only [pS, pN, pA, pC, pZ]
  refine doN (wanted_no rfl rfl rfl (c := true) rfl (by decide)) ?_
  simp only [pS, pN, pA, pC, pZ]
  refine doN (wanted_no rfl rfl rfl (c := true) rfl (by decide)) ?_
  simp only [pS, pN, pA, pC, pZ]
  refine do_ rfl (.bool true) (ex_pick (b := true) rfl) ?_
  simp only [pS, pN, pA, pC, pZ]
  refine wl_nil (hK3 _ _ ?_)
  refine wp_cond_true rfl ?_
  refine wp_seq_k (fun K4 hK4 => region_wl ?_)
  refine do_ rfl (.pointer (some ⟨rb, 0, none⟩)) (ex_move _) ?_
  simp only [pS, pN, pA, pC, pZ]
  refine do_ rfl (.pointer (some ⟨rb, 0, none⟩)) (ex_nil rfl) ?_
  simp only [pS, pN, pA, pC, pZ]
  refine do_ rfl (.pointer (some ⟨rb, 1, none⟩)) (ex_field (q := ⟨rb, 1, none⟩) rfl (fa_120_1 _ _)) ?_
  simp only [pS, pN, pA, pC, pZ]
  refine stStore (i := 0) (v := (.bool true)) S rfl rfl rfl rfl (size_4) (allc1 rfl) (Nat.le_of_ble_eq_true rfl) (fun w5 S6 => ?_)
  simp only [pS, pN, pA, pC, pZ]
  have S6 : St w0 F0 w5 F (⟨rb, [(.slice a r.rest.length c), (.bool true)], 120⟩ :: L0) (M0) := S6
  refine wl_nil (hK4 _ _ ?_)
  refine wp_seq_k (fun K7 hK7 => region_wl ?_)
  refine do_ rfl (.int .i64 ((n : Nat) : Int)) (ex_move _) ?_
  simp only [pS, pN, pA, pC, pZ]
  refine stMake (k := 1) (n := n) (m := n) S6 rfl i5 (.int .u8 0) 1 Try.underlying25 hi5 hz5 hs5 hb5 rfl rfl (by omega) (by omega) (by omega) ?_
  intro g8 w9 S10
  rw [show (madeCells (Value.int .u8 0).cells (n * 1)).toList = ((List.replicate n (0 : UInt8)).map bv) from by rw [show (Value.int .u8 0).cells = #[.int .u8 0] from rfl, toList_madeCells_one]; simp [bv]] at S10
  simp only [pS, pN, pA, pC, pZ]
  have S10 : St w0 F0 w9 F (⟨g8, ((List.replicate n (0 : UInt8)).map bv), 5⟩ :: ⟨rb, [(.slice a r.rest.length c), (.bool true)], 120⟩ :: L0) (M0) := S10
  refine do_ rfl (.slice (some ⟨g8, 0, none⟩) n n) (ex_assign _) ?_
  simp only [pS, pN, pA, pC, pZ]
  refine wl_nil (hK7 _ _ ?_)
  refine wp_ret ?_
  (try simp only [Exit.then, Exit.inBlock, ↓reduceIte, Nat.reduceEqDiff])
  refine bodyPost_ret (v := (.slice (some ⟨g8, 0, none⟩) n n)) ?_ rfl ?_
  ·exact res_t rfl rfl
  ·rw [takeR_bad (.inl hsr)]
   obtain ⟨S11, le12, hc13⟩ := St.freezeBlk S10 (i := 0) rfl
   have r15 := bs_of_block (l := List.replicate n (0 : UInt8)) hc13 rfl (by rw [List.length_replicate]; unfold maxLen; omega)
   rw [List.length_replicate] at r15
   generalize addF F w9 g8 = F14 at *
   have S11 : St w0 F0 w9 F14 (⟨rb, [(.slice a r.rest.length c), (.bool true)], 120⟩ :: L0) (M0) := S11
   exact ⟨_, _, _, _, rfl, le12, S11, (hr.mono le12), r15⟩
 | false =>
  rw [hsr] at S
  refine region_wl ?_
  refine do_ rfl (.pointer (some ⟨rb, 0, none⟩)) (ex_move _) ?_
  simp only [pS, pN, pA, pC, pZ]
  refine do_ rfl (.pointer (some ⟨rb, 0, none⟩)) (ex_nil rfl) ?_
  simp only [pS, pN, pA, pC, pZ]
  refine do_ rfl (.pointer (some ⟨rb, 1, none⟩)) (ex_field (q := ⟨rb, 1, none⟩) rfl (fa_120_1 _ _)) ?_
  simp only [pS, pN, pA, pC, pZ]
  refine do_ rfl (.bool false) (ex_load rfl (load1 (nagg_4 _) (St.cell S (i := 0) rfl rfl))) ?_
  simp only [pS, pN, pA, pC, pZ]
  refine do_ rfl (.bool false) (ex_move _) ?_
  simp only [pS, pN, pA, pC, pZ]
  refine do_ rfl (.pointer (some ⟨rb, 0, none⟩)) (ex_move _) ?_
  simp only [pS, pN, pA, pC, pZ]
  refine do_ rfl (.pointer (some ⟨rb, 0, none⟩)) (ex_nil rfl) ?_
  simp only [pS, pN, pA, pC, pZ]
  refine do_ rfl (.pointer (some ⟨rb, 0, none⟩)) (ex_field (q := ⟨rb, 0, none⟩) rfl (fa_120_0 _ _)) ?_
  simp only [pS, pN, pA, pC, pZ]
  refine do_ rfl (.slice a r.rest.length c) (ex_load rfl (load1 (nagg_25 _) (St.cell S (i := 0) rfl rfl))) ?_
  simp only [pS, pN, pA, pC, pZ]
  refine do_ rfl (.int .i64 ((r.rest.length : Nat) : Int)) (ex_len Try.underlying25 rfl) ?_
  simp only [pS, pN, pA, pC, pZ]
  refine do_ rfl (.int .i64 ((n : Nat) : Int)) (ex_move _) ?_
  simp only [pS, pN, pA, pC, pZ]
  by_cases hc17 : r.rest.length < n
  ·refine do_ rfl (.bool true) (ex_lss (m := ((r.rest.length : Nat) : Int)) (n := ((n : Nat) : Int)) (b := true) rfl rfl (decide_eq_true (by omega))) ?_
   simp only [pS, pN, pA, pC, pZ]
   refine do_ rfl (.bool true) (ex_pick (b := false) rfl) ?_
   simp only [pS, pN, pA, pC, pZ]
   refine wl_nil (hK3 _ _ ?_)
   refine wp_cond_true rfl ?_
   refine wp_seq_k (fun K16 hK16 => region_wl ?_)
   refine do_ rfl (.pointer (some ⟨rb, 0, none⟩)) (ex_move _) ?_
   simp only [pS, pN, pA, pC, pZ]
   refine do_ rfl (.pointer (some ⟨rb, 0, none⟩)) (ex_nil rfl) ?_
   simp only [pS, pN, pA, pC, pZ]
   refine do_ rfl (.pointer (some ⟨rb, 1, none⟩)) (ex_field (q := ⟨rb, 1, none⟩) rfl (fa_120_1 _ _)) ?_
   simp only [pS, pN, pA, pC, pZ]
   refine stStore (i := 0) (v := (.bool true)) S rfl rfl rfl rfl (size_4) (allc1 rfl) (Nat.le_of_ble_eq_true rfl) (fun w17 S18 => ?_)
   simp only [pS, pN, pA, pC, pZ]
   have S18 : St w0 F0 w17 F (⟨rb, [(.slice a r.rest.length c), (.bool true)], 120⟩ :: L0) (M0) := S18
   refine wl_nil (hK16 _ _ ?_)
   refine wp_seq_k (fun K19 hK19 => region_wl ?_)
   refine do_ rfl (.int .i64 ((n : Nat) : Int)) (ex_move _) ?_
   simp only [pS, pN, pA, pC, pZ]
   refine stMake (k := 1) (n := n) (m := n) S18 rfl i5 (.int .u8 0) 1 Try.underlying25 hi5 hz5 hs5 hb5 rfl rfl (by omega) (by omega) (by omega) ?_
   intro g20 w21 S22
   rw [show (madeCells (Value.int .u8 0).cells (n * 1)).toList = ((List.replicate n (0 : UInt8)).map bv) from by rw [show (Value.int .u8 0).cells = #[.int .u8 0] from rfl, toList_madeCells_one]; simp [bv]] at S22
   simp only [pS, pN, pA, pC, pZ]
   have S22 : St w0 F0 w21 F (⟨g20, ((List.replicate n (0 : UInt8)).map bv), 5⟩ :: ⟨rb, [(.slice a r.rest.length c), (.bool true)], 120⟩ :: L0) (M0) := S22
   refine do_ rfl (.slice (some ⟨g20, 0, none⟩) n n) (ex_assign _) ?_
   simp only [pS, pN, pA, pC, pZ]
   refine wl_nil (hK19 _ _ ?_)
   refine wp_ret ?_
   (try simp only [Exit.then, Exit.inBlock, ↓reduceIte, Nat.reduceEqDiff])
   refine bodyPost_ret (v := (.slice (some ⟨g20, 0, none⟩) n n)) ?_ rfl ?_
   ·exact res_t rfl rfl
   ·rw [takeR_bad (.inr (by omega))]
    obtain ⟨S23, le24, hc25⟩ := St.freezeBlk S22 (i := 0) rfl
    have r27 := bs_of_block (l := List.replicate n (0 : UInt8)) hc25 rfl (by rw [List.length_replicate]; unfold maxLen; omega)
    rw [List.length_replicate] at r27
    generalize addF F w21 g20 = F26 at *
    have S23 : St w0 F0 w21 F26 (⟨rb, [(.slice a r.rest.length c), (.bool true)], 120⟩ :: L0) (M0) := S23
    exact ⟨_, _, _, _, rfl, le24, S23, (hr.mono le24), r27⟩
  ·refine do_ rfl (.bool false) (ex_lss (m := ((r.rest.length : Nat) : Int)) (n := ((n : Nat) : Int)) (b := false) rfl rfl (decide_eq_false (by omega))) ?_
   simp only [pS, pN, pA, pC, pZ]
   refine do_ rfl (.bool false) (ex_pick (b := false) rfl) ?_
   simp only [pS, pN, pA, pC, pZ]
   refine wl_nil (hK3 _ _ ?_)
   refine wp_cond_false rfl ?_
   refine wp_skip ?_
   refine hK2 _ _ ?_
   refine wp_seq_k (fun K28 hK28 => region_wl ?_)
   refine do_ rfl (.pointer (some ⟨rb, 0, none⟩)) (ex_move _) ?_
   simp only [pS, pN, pA, pC, pZ]
   refine do_ rfl (.pointer (some ⟨rb, 0, none⟩)) (ex_nil rfl) ?_
   simp only [pS, pN, pA, pC, pZ]
   refine do_ rfl (.pointer (some ⟨rb, 0, none⟩)) (ex_field (q := ⟨rb, 0, none⟩) rfl (fa_120_0 _ _)) ?_
   simp only [pS, pN, pA, pC, pZ]
   refine do_ rfl (.slice a r.rest.length c) (ex_load rfl (load1 (nagg_25 _) (St.cell S (i := 0) rfl rfl))) ?_
   simp only [pS, pN, pA, pC, pZ]
   refine do_ rfl (.int .i64 ((n : Nat) : Int)) (ex_move _) ?_
   simp only [pS, pN, pA, pC, pZ]
   refine do_ rfl (.int .i64 ((n : Nat) : Int)) (ex_move _) ?_
   simp only [pS, pN, pA, pC, pZ]
   have r29 : Bs _ (.slice a n n) (r.rest.take n) := Bs.cut hr (by omega)
   refine do_ rfl (.slice a n n) (ex_slice3_0 (h := n) (m := n) (sz := 1) Try.underlying25 rfl (sizeof_5 _) rfl rfl (by omega) (by omega) rfl) ?_
   simp only [pS, pN, pA, pC, pZ]
   refine do_ rfl (.slice a n n) (ex_assign _) ?_
   simp only [pS, pN, pA, pC, pZ]
   refine wl_nil (hK28 _ _ ?_)
   refine wp_seq_k (fun K30 hK30 => region_wl ?_)
   refine do_ rfl (.pointer (some ⟨rb, 0, none⟩)) (ex_move _) ?_
   simp only [pS, pN, pA, pC, pZ]
   refine do_ rfl (.pointer (some ⟨rb, 0, none⟩)) (ex_move _) ?_
   simp only [pS, pN, pA, pC, pZ]
   refine do_ rfl (.pointer (some ⟨rb, 0, none⟩)) (ex_nil rfl) ?_
   simp only [pS, pN, pA, pC, pZ]
   refine do_ rfl (.pointer (some ⟨rb, 0, none⟩)) (ex_field (q := ⟨rb, 0, none⟩) rfl (fa_120_0 _ _)) ?_
   simp only [pS, pN, pA, pC, pZ]
   refine do_ rfl (.slice a r.rest.length c) (ex_load rfl (load1 (nagg_25 _) (St.cell S (i := 0) rfl rfl))) ?_
   simp only [pS, pN, pA, pC, pZ]
   refine do_ rfl (.int .i64 ((n : Nat) : Int)) (ex_move _) ?_
   simp only [pS, pN, pA, pC, pZ]
   have r31 : Bs _ (.slice (if c = n then a else a.map (·.add (n * 1))) (r.rest.length - n) (c - n)) (r.rest.drop n) := Bs.rest hr (by omega)
   refine do_ rfl (.slice (if c = n then a else a.map (·.add (n * 1))) (r.rest.length - n) (c - n)) (ex_slice (l := n) (h := r.rest.length) (sz := 1) Try.underlying25 rfl (sizeof_5 _) (.inr ⟨_, rfl, rfl⟩) (.inl ⟨rfl, rfl⟩) (by omega) (by omega) (rfl)) ?_
   simp only [pS, pN, pA, pC, pZ]
   refine do_ rfl (.pointer (some ⟨rb, 0, none⟩)) (ex_nil rfl) ?_
   simp only [pS, pN, pA, pC, pZ]
   refine do_ rfl (.pointer (some ⟨rb, 0, none⟩)) (ex_field (q := ⟨rb, 0, none⟩) rfl (fa_120_0 _ _)) ?_
   simp only [pS, pN, pA, pC, pZ]
   refine stStore (i := 0) (v := (.slice (if c = n then a else a.map (·.add (n * 1))) (r.rest.length - n) (c - n))) S rfl rfl rfl rfl (size_25) (allc1 rfl) (Nat.le_of_ble_eq_true rfl) (fun w32 S33 => ?_)
   simp only [pS, pN, pA, pC, pZ]
   have S33 : St w0 F0 w32 F (⟨rb, [(.slice (if c = n then a else a.map (·.add (n * 1))) (r.rest.length - n) (c - n)), (.bool false)], 120⟩ :: L0) (M0) := S33
   refine wl_nil (hK30 _ _ ?_)
   refine wp_seq_k (fun K34 hK34 => region_wl ?_)
   refine do_ rfl (.slice a n n) (ex_move _) ?_
   simp only [pS, pN, pA, pC, pZ]
   refine stGives S33 rfl (ex_fn (vs := #[(.slice a n n)]) (map1 rfl) rfl (ent_60 _ _)) (clone_spec _ _ _ (r.rest.take n) (S33).sat r29 (by simp only [List.length_take]; omega)) ?_
   intro v40 w35 F37 S36 le38 R39
   obtain ⟨xa41, xc42, rfl, _⟩ := R39.shape
   simp only [pS, pN, pA, pC, pZ]
   refine do_ rfl (.slice xa41 (r.rest.take n).length xc42) (ex_assign _) ?_
   simp only [pS, pN, pA, pC, pZ]
   refine wl_nil (hK34 _ _ ?_)
   refine wp_ret ?_
   (try simp only [Exit.then, Exit.inBlock, ↓reduceIte, Nat.reduceEqDiff])
   refine bodyPost_ret (v := (.slice xa41 (r.rest.take n).length xc42)) ?_ rfl ?_
   ·exact res_t rfl rfl
   ·rw [takeR_good hsr (by omega)]
    have hlen : r.rest.length - n = (r.rest.drop n).length := (List.length_drop ..).symm
    have hS := S36
    have hB := (r31.mono le38)
    rw [hlen] at hS hB
    exact ⟨_, _, _, _, rfl, le38, hS, hB, R39⟩
set_option maxHeartbeats 8000000 in
theorem byte_spec {w0 w : World} {F0 F : Fz} {L0 : List Blk} {M0 : List RowP} {rb : Nat} {a : Option Addr} {c : Nat} {r : Rr}
    (S : St w0 F0 w F (⟨rb, [.slice a r.rest.length c, .bool r.short], 120⟩ :: L0) M0) (hr : Bs F (.slice a r.rest.length c) r.rest) (hl : r.rest.length ≤ 100000) :
    Calls Try.prog 71 #[.pointer (some ⟨rb, 0, none⟩)] w (ByteP w0 F0 F rb 120 L0 M0 (byteR r)) := by
 go_enter Try.func71, Try.ntmps71
 refine wp_seq_k (fun K1 hK1 => region_wl ?_)
 refine do_ rfl (.int .i64 0) (ex_assign _) ?_
 simp only [pS, pN, pA, pC, pZ]
 refine wl_nil (hK1 _ _ ?_)
 refine wp_seq_k (fun K2 hK2 => region_wl ?_)
 refine do_ rfl (.pointer (some ⟨rb, 0, none⟩)) (ex_move _) ?_
 simp only [pS, pN, pA, pC, pZ]
 refine stTake rfl (ex_fn (vs := #[(.pointer (some ⟨rb, 0, none⟩)), (.int .i64 1)]) (map2 rfl rfl) rfl (ent_72 _ _)) (take_spec (n := 1) S hr (by omega) hl) ?_
 intro v3 a4 c5 w6 F7 le8 S9 r10 r11
 obtain ⟨b0, hb0⟩ : ∃ b, (takeR 1 r).1 = [b] := List.length_eq_one_iff.1 (takeR_len 1 r)
 rw [hb0] at r11
 obtain ⟨xa, xc, rfl, _⟩ := r11.shape
 simp only [pS, pN, pA, pC, pZ]
 obtain ⟨b12, o13, ha14, c15⟩ := Bs.get r11 (show ([b0] : By)[0]? = some b0 from rfl)
 refine do_ rfl (.pointer (some ⟨b12, o13 + 0 * 1, none⟩)) (ex_at (i := 0) (sz := 1) Try.underlying25 (sizeof_5 _) rfl ha14 rfl (by simp) rfl) ?_
 simp only [pS, pN, pA, pC, pZ]
 refine do_ rfl (bv b0) (ex_load rfl (load1 (nagg_5 _) (St.fz S9 c15))) ?_
 simp only [pS, pN, pA, pC, pZ]
 refine do_ rfl (.int .i64 ((b0.toNat : Nat) : Int)) (ex_convert (v := (bv b0)) rfl (conv_int b0 _)) ?_
 simp only [pS, pN, pA, pC, pZ]
 refine do_ rfl (.int .i64 ((b0.toNat : Nat) : Int)) (ex_assign _) ?_
 simp only [pS, pN, pA, pC, pZ]
 refine wl_nil (hK2 _ _ ?_)
 refine wp_ret ?_
 (try simp only [Exit.then, Exit.inBlock, ↓reduceIte, Nat.reduceEqDiff])
 refine bodyPost_ret (v := (.int .i64 ((b0.toNat : Nat) : Int))) ?_ rfl ?_
 ·exact res_t rfl rfl
 ·have he : (byteR r).1 = b0.toNat := by unfold byteR; rw [hb0]; rfl
  refine ⟨_, _, _, by rw [he], le8, S9, r10⟩
end Go.Proofs.Ytcpngkkconalhaa
