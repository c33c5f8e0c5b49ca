/- Rules, plain laws and walks: H1 S10 T0 BY D1 DG1 -/
import Derived.Test.YtikklmjengkliaaDoorBR8
import Derived.Test.YtikklmjengkliaaDoorBR2
import Derived.OrdersHeld
import Derived.Test.YtikklmjengkliaaDoorCards
import Derived.Test.YtikklmjengkliaaDoorTie
import Derived.WalkKit
import Derived.ProofKit
import Derived.OpenShut
import Derived.Deep.DeepHandedRow
import Derived.Lib.LaidTab
import Derived.Lib.SmallJoins
import Derived.Test.YtikklmjengkliaaDoorBR1
import Derived.Deep.QuietTactic
import Derived.BigQuiet
import Derived.Test.YtikklmjengkliaaDoorBR4
import Derived.StillTailTactics
import Derived.Deep.MidRow
namespace Go.Proofs.YtikklmjengkliaaDoor
open Go.RowKit
set_option maxRecDepth 100000
set_option linter.unusedVariables false
set_option linter.unusedSimpArgs false
theorem applyNil {r : Wr} (h : WrOk r) : ∃ g, applyE [] [r] = (0, g) := by
  rw [applyE_one h]
  cases hw : writeF [] r with
  | some g => exact ⟨g, rfl⟩
  | none =>
    have := (writeF_none (m := 0) (ForestOk.nil 0) h (by omega) hw).1
    simp at this
theorem ex_rem {P : Program} {ρ : Operand → Value} {w : World} {d : Option Tmp} {t X Y : TypeId} {x y : Operand} {pos : String} {after : Array Edge} {guard : Option (Nat × Bool)} {m n : Nat} (hx : ρ x = .int .i64 (m : Int)) (hy : ρ y = .int .i64 (n : Int)) (hn : 0 < n) : (execOp ρ ⟨d, .binOp .rem X x y Y, t, pos, after, guard⟩).run P w = .ok (.value (.int .i64 ((m % n : Nat) : Int))) w := by
  refine ex_bin hx hy ?_
  rw [run_binInt _ (by simp)]
  show (Op.intDiv .rem .i64 m n).run P w = _
  unfold Op.intDiv
  rw [if_neg (by omega)]
  show Result.ok (Value.int .i64 (Int.tmod (m : Int) (n : Int))) w = _
  rw [Int.tmod_eq_emod_of_nonneg (by omega)]
  rfl
def stepN (kl L i : Nat) : Nat := if L - i < 1 + kl % 3 then L - i else 1 + kl % 3
theorem stepN_ok {kl L i : Nat} (h : i < L) : 1 ≤ stepN kl L i ∧ i + stepN kl L i ≤ L ∧ stepN kl L i ≤ 3 := by unfold stepN; split <;> omega
theorem Sl.cap {α : Type} {k : Nat} {R : Fz → List Value → α → Prop} {F : Fz} {a : Option Addr} {n c c' : Nat} {l : List α} (h : Sl k R F (.slice a n c) l) (h1 : n ≤ c') (h2 : c' ≤ c) : Sl k R F (.slice a n c') l := by
  have hn := Sl.len h
  obtain ⟨xs, ⟨a', c0, e1, q1, q2, q3, q4⟩, hr, hk⟩ := h
  injection e1 with e1 e2 e3
  subst e1 e3
  exact ⟨xs, ⟨a, c', by rw [hn], by omega, by omega, fun h => by have := q3 h; omega, q4⟩, hr, hk⟩
theorem Sl.cut3 {α : Type} {k : Nat} {R : Fz → List Value → α → Prop} {F : Fz} {a : Option Addr} {n c i h : Nat} {l : List α} (hk : 0 < k) (hs : Sl k R F (.slice a n c) l) (h1 : i ≤ h) (h2 : h ≤ n) (h3 : n ≤ c) : Sl k R F (.slice (if h = i then a else a.map (·.add (i * k))) (h - i) (h - i)) ((l.take h).drop i) := Sl.dropAny (m := i) hk (Sl.cap (Sl.takeN (m := h) hs h2) (Nat.le_refl _) (by omega)) h1
theorem Sl.cut2 {α : Type} {k : Nat} {R : Fz → List Value → α → Prop} {F : Fz} {a : Option Addr} {n c i h : Nat} {l : List α} (hk : 0 < k) (hs : Sl k R F (.slice a n c) l) (h1 : i ≤ h) (h2 : h ≤ n) : Sl k R F (.slice (if c = i then a else a.map (·.add (i * k))) (h - i) (c - i)) ((l.take h).drop i) := Sl.dropAny (m := i) hk (Sl.takeN (m := h) hs h2) h1
set_option maxHeartbeats 8000000 in
theorem tapeCheckOk_spec (F : Fz) (w : World) (v : Value) (m : Cm) (hs : Sat w F) (hv : CmV F v m) (hm : CmOk m) :
    Calls Tryd.prog 56 #[v] w (Tells w (.int .i64 0)) := by
 obtain ⟨x1, y1, rfl, h1⟩ := hv
 obtain ⟨_, _, e1, q2, q3⟩ := Sl.shape h1
 injection e1 with _ _ e1
 subst e1
 unfold maxLen at q3
 have hmt := hm.turn
 have hms := hm.some
 have S := St.start hs
 go_enter Tryd.func56, Tryd.ntmps56
 refine wp_seq_k (fun K1 hK1 => region_wl ?_)
 refine stNew S (v := fun n => .pointer (some ⟨n, 0, none⟩)) rfl (ex_box (v := (.agg #[(.int .i64 ((m.turn : Nat) : Int)), (.slice x1 m.writes.length y1)])) rfl) (fun n2 w3 S4 => ?_)
 simp only [pS, pN, pA, pC, pZ]
 have S4 : St w F w3 F [⟨n2, [(.int .i64 ((m.turn : Nat) : Int)), (.slice x1 m.writes.length y1)], 72⟩] [] := S4
 refine do_ rfl (.int .i64 0) (ex_assign _) ?_
 simp only [pS, pN, pA, pC, pZ]
 refine wl_nil (hK1 _ _ ?_)
 refine wp_seq_k (fun K5 hK5 => ?_)
 refine wp_seq_k (fun K6 hK6 => region_wl ?_)
 refine do_ rfl (.pointer (some ⟨n2, 0, none⟩)) (ex_field (q := ⟨n2, 0, none⟩) rfl (fa_72_0 _ _)) ?_
 simp only [pS, pN, pA, pC, pZ]
 refine do_ rfl (.int .i64 ((m.turn : Nat) : Int)) (ex_load rfl (load1 (nagg_3 _) (St.cell S4 (i := 0) rfl rfl))) ?_
 simp only [pS, pN, pA, pC, pZ]
 refine do_ rfl (.bool false) (ex_lss (m := ((m.turn : Nat) : Int)) (n := (1 : Int)) (b := false) rfl rfl (decide_eq_false (by omega))) ?_
 simp only [pS, pN, pA, pC, pZ]
 refine do_ rfl (.bool false) (ex_move _) ?_
 simp only [pS, pN, pA, pC, pZ]
 refine do_ rfl (.pointer (some ⟨n2, 0, none⟩)) (ex_field (q := ⟨n2, 0, none⟩) rfl (fa_72_0 _ _)) ?_
 simp only [pS, pN, pA, pC, pZ]
 refine do_ rfl (.int .i64 ((m.turn : Nat) : Int)) (ex_load rfl (load1 (nagg_3 _) (St.cell S4 (i := 0) rfl rfl))) ?_
 simp only [pS, pN, pA, pC, pZ]
 refine do_ rfl (.bool false) (ex_gtr (m := ((m.turn : Nat) : Int)) (n := (1048576 : Int)) (b := false) rfl rfl (decide_eq_false (by omega))) ?_
 simp only [pS, pN, pA, pC, pZ]
 refine do_ rfl (.bool false) (ex_pick (b := false) rfl) ?_
 simp only [pS, pN, pA, pC, pZ]
 refine wl_nil (hK6 _ _ ?_)
 refine wp_cond_false rfl ?_
 refine wp_skip ?_
 refine hK5 _ _ ?_
 refine wp_seq_k (fun K7 hK7 => ?_)
 refine wp_seq_k (fun K8 hK8 => region_wl ?_)
 refine do_ rfl (.pointer (some ⟨n2, 1, none⟩)) (ex_field (q := ⟨n2, 1, none⟩) rfl (fa_72_1 _ _)) ?_
 simp only [pS, pN, pA, pC, pZ]
 refine do_ rfl (.slice x1 m.writes.length y1) (ex_load rfl (load1 (nagg_37 _) (St.cell S4 (i := 0) rfl rfl))) ?_
 simp only [pS, pN, pA, pC, pZ]
 refine do_ rfl (.int .i64 ((m.writes.length : Nat) : Int)) (ex_len Tryd.underlying37 rfl) ?_
 simp only [pS, pN, pA, pC, pZ]
 refine do_ rfl (.bool false) (ex_lss (m := ((m.writes.length : Nat) : Int)) (n := (1 : Int)) (b := false) rfl rfl (decide_eq_false (by omega))) ?_
 simp only [pS, pN, pA, pC, pZ]
 refine wl_nil (hK8 _ _ ?_)
 refine wp_cond_false rfl ?_
 refine wp_skip ?_
 refine hK7 _ _ ?_
 refine wp_seq_k (fun K9 hK9 => ?_)
 refine wp_seq_k (fun K10 hK10 => region_wl ?_)
 refine do_ rfl (.pointer (some ⟨n2, 1, none⟩)) (ex_field (q := ⟨n2, 1, none⟩) rfl (fa_72_1 _ _)) ?_
 simp only [pS, pN, pA, pC, pZ]
 refine do_ rfl (.slice x1 m.writes.length y1) (ex_load rfl (load1 (nagg_37 _) (St.cell S4 (i := 0) rfl rfl))) ?_
 simp only [pS, pN, pA, pC, pZ]
 refine do_ rfl (.int .i64 ((m.writes.length : Nat) : Int)) (ex_len Tryd.underlying37 rfl) ?_
 simp only [pS, pN, pA, pC, pZ]
 refine do_ rfl (.int .i64 0) (ex_move _) ?_
 simp only [pS, pN, pA, pC, pZ]
 refine wl_nil (hK10 _ _ ?_)
 refine wp_block ?_
 refine wp_loop_g (fun mm aa w13 => ∃ (k : Nat) (F11 : Fz) (u12 : Nat → Value), mm = m.writes.length - k ∧ u12 = slots aa ∧ aa = ⟨#[(.agg #[(.int .i64 ((m.turn : Nat) : Int)), (.slice x1 m.writes.length y1)]), (.pointer (some ⟨n2, 0, none⟩)), (u12 2), (u12 3), (u12 4), (u12 5), (u12 6), (.pointer (some ⟨n2, 0, none⟩)), (.int .i64 ((m.turn : Nat) : Int)), (.bool false), (.bool false), (.pointer (some ⟨n2, 0, none⟩)), (.int .i64 ((m.turn : Nat) : Int)), (.bool false), (.bool false), (.pointer (some ⟨n2, 1, none⟩)), (.slice x1 m.writes.length y1), (.int .i64 ((m.writes.length : Nat) : Int)), (.bool false), (.pointer (some ⟨n2, 1, none⟩)), (.slice x1 m.writes.length y1), (.int .i64 ((m.writes.length : Nat) : Int)), (.int .i64 ((k : Nat) : Int)), (u12 23), (u12 24), (u12 25), (u12 26), (u12 27), (u12 28), (u12 29), (u12 30), (u12 31), (u12 32), (u12 33), (u12 34), (u12 35), (u12 36), (u12 37), (u12 38)], []⟩ ∧ St w F w13 F11 [⟨n2, [(.int .i64 ((m.turn : Nat) : Int)), (.slice x1 m.writes.length y1)], 72⟩] [] ∧ Le F F11 ∧ (k ≤ m.writes.length)) _ ⟨0, F, _, rfl, rfl, rfl, S4, Le.refl _, (by omega)⟩ ?_
 rintro m14 a15 w16 ⟨k, F11, u12, rfl, -, rfl, S17, le18, hk⟩ K19 hK19
 refine wp_seq_k (fun K20 hK20 => region_wl ?_)
 by_cases hc23 : k < m.writes.length
 ·refine do_ rfl (.bool true) (ex_lss (m := ((k : Nat) : Int)) (n := ((m.writes.length : Nat) : Int)) (b := true) rfl rfl (decide_eq_true (by omega))) ?_
  simp only [pS, pN, pA, pC, pZ]
  refine wl_nil (hK20 _ _ ?_)
  refine wp_seq_k (fun K21 hK21 => ?_)
  refine wp_cond_true rfl ?_
  refine wp_skip ?_
  refine hK21 _ _ ?_
  refine wp_seq_k (fun K22 hK22 => ?_)
  refine wp_block ?_
  refine wp_seq_k (fun K23 hK23 => ?_)
  obtain ⟨p, hp⟩ : ∃ p, m.writes[k]? = some p := ⟨m.writes[k], List.getElem?_eq_getElem hc23⟩
  have hpo := hm.ok p (List.mem_of_getElem? hp)
  obtain ⟨gx, hae⟩ := applyNil hpo
  obtain ⟨b24, o25, ha26, xa28, xc29, xa32, xc33, xa37, xc38, c27, c31, c35, c36, r30, r34, r39⟩ := Wrs.get (h1.mono le18) hp
  refine region_wl ?_
  refine do_ rfl (.int .i64 ((k : Nat) : Int)) (ex_move _) ?_
  simp only [pS, pN, pA, pC, pZ]
  refine do_ rfl (.pointer (some ⟨b24, o25 + k * 4, none⟩)) (ex_at (i := k) (sz := 4) Tryd.underlying37 (sizeof_36 _) rfl ha26 rfl (by omega) rfl) ?_
  simp only [pS, pN, pA, pC, pZ]
  refine do_ rfl (.agg #[(.slice xa28 p.name.length xc29), (.slice xa32 p.key.length xc33), (.bool p.gone), (.slice xa37 p.value.length xc38)]) (ex_load rfl (loadN (cs := [(.slice xa28 p.name.length xc29), (.slice xa32 p.key.length xc33), (.bool p.gone), (.slice xa37 p.value.length xc38)]) Tryd.underlying36 rfl (size_36) (range4 (St.fz S17 c27) (St.fz S17 c31) (St.fz S17 c35) (St.fz S17 c36)))) ?_
  simp only [pS, pN, pA, pC, pZ]
  refine stNew S17 (v := fun n => .pointer (some ⟨n, 0, none⟩)) rfl (ex_alloc (zero_36 _)) (fun n40 w41 S42 => ?_)
  simp only [pS, pN, pA, pC, pZ]
  have S42 : St w F w41 F11 [⟨n40, [(.slice none 0 0), (.slice none 0 0), (.bool false), (.slice none 0 0)], 36⟩, ⟨n2, [(.int .i64 ((m.turn : Nat) : Int)), (.slice x1 m.writes.length y1)], 72⟩] [] := S42
  refine do_ rfl (.int .i64 ((k : Nat) : Int)) (ex_assign _) ?_
  simp only [pS, pN, pA, pC, pZ]
  refine stStore (i := 0) (v := (.agg #[(.slice xa28 p.name.length xc29), (.slice xa32 p.key.length xc33), (.bool p.gone), (.slice xa37 p.value.length xc38)])) S42 rfl rfl rfl rfl (size_36) (allc4 rfl rfl rfl rfl) (Nat.le_of_ble_eq_true rfl) (fun w43 S44 => ?_)
  simp only [pS, pN, pA, pC, pZ]
  have S44 : St w F w43 F11 [⟨n40, [(.slice xa28 p.name.length xc29), (.slice xa32 p.key.length xc33), (.bool p.gone), (.slice xa37 p.value.length xc38)], 36⟩, ⟨n2, [(.int .i64 ((m.turn : Nat) : Int)), (.slice x1 m.writes.length y1)], 72⟩] [] := S44
  refine wl_nil (hK23 _ _ ?_)
  refine wp_seq_k (fun K45 hK45 => ?_)
  refine wp_seq_k (fun K46 hK46 => region_wl ?_)
  refine do_ rfl (.int .i64 ((k : Nat) : Int)) (ex_move _) ?_
  simp only [pS, pN, pA, pC, pZ]
  refine do_ rfl (.bool false) (ex_eql (m := ((k : Nat) : Int)) (n := (10 : Int)) (b := false) rfl rfl (beq_eq_false_iff_ne.2 (by omega))) ?_
  simp only [pS, pN, pA, pC, pZ]
  refine wl_nil (hK46 _ _ ?_)
  refine wp_cond_false rfl ?_
  refine wp_skip ?_
  refine hK45 _ _ ?_
  refine wp_seq_k (fun K47 hK47 => region_wl ?_)
  refine do_ rfl (.agg #[(.slice xa28 p.name.length xc29), (.slice xa32 p.key.length xc33), (.bool p.gone), (.slice xa37 p.value.length xc38)]) (ex_load rfl (loadN (cs := [(.slice xa28 p.name.length xc29), (.slice xa32 p.key.length xc33), (.bool p.gone), (.slice xa37 p.value.length xc38)]) Tryd.underlying36 rfl (size_36) (St.range S44 (i := 0) rfl 0 [(.slice xa28 p.name.length xc29), (.slice xa32 p.key.length xc33), (.bool p.gone), (.slice xa37 p.value.length xc38)] (sub_range 0 rfl)))) ?_
  simp only [pS, pN, pA, pC, pZ]
  refine stNew S44 (v := fun n => .slice (some ⟨n, 0, none⟩) 1 1) rfl (ex_lit (ps := #[(0, (.agg #[(.slice xa28 p.name.length xc29), (.slice xa32 p.key.length xc33), (.bool p.gone), (.slice xa37 p.value.length xc38)]))]) (cells := #[(.slice xa28 p.name.length xc29), (.slice xa32 p.key.length xc33), (.bool p.gone), (.slice xa37 p.value.length xc38)]) (E := 36) (bmap1 rfl) (fun w => by kernel_rfl)) (fun n48 w49 S50 => ?_)
  simp only [pS, pN, pA, pC, pZ]
  have S50 : St w F w49 F11 [⟨n48, [(.slice xa28 p.name.length xc29), (.slice xa32 p.key.length xc33), (.bool p.gone), (.slice xa37 p.value.length xc38)], 36⟩, ⟨n40, [(.slice xa28 p.name.length xc29), (.slice xa32 p.key.length xc33), (.bool p.gone), (.slice xa37 p.value.length xc38)], 36⟩, ⟨n2, [(.int .i64 ((m.turn : Nat) : Int)), (.slice x1 m.writes.length y1)], 72⟩] [] := S50
  obtain ⟨S51, le52, hc53⟩ := St.freezeBlk S50 (i := 0) rfl
  have r55 : Wrs _ (.slice (some ⟨n48, 0, none⟩) 1 1) [p] := sl_of_block (R := WrC) (l := [p]) (el := [[(.slice xa28 p.name.length xc29), (.slice xa32 p.key.length xc33), (.bool p.gone), (.slice xa37 p.value.length xc38)]]) hc53 rfl ⟨⟨_, _, _, _, rfl, (r30.mono le52), (r34.mono le52), rfl, (r39.mono le52)⟩, trivial⟩ (by simp) (by unfold maxLen; simp)
  generalize addF F11 w49 n48 = F54 at *
  have S51 : St w F w49 F54 [⟨n40, [(.slice xa28 p.name.length xc29), (.slice xa32 p.key.length xc33), (.bool p.gone), (.slice xa37 p.value.length xc38)], 36⟩, ⟨n2, [(.int .i64 ((m.turn : Nat) : Int)), (.slice x1 m.writes.length y1)], 72⟩] [] := S51
  refine stGives S51 rfl (ex_fn (vs := #[(.slice none 0 0), (.slice (some ⟨n48, 0, none⟩) 1 1)]) (map2 rfl rfl) rfl (ent_16 _ _)) (apply_is (S51).sat (Sl.nil _ _ _) r55 (ForestOk.nil 60) (by simpa using hpo) hae) ?_
  intro v61 w56 F58 S57 le59 R60
  obtain ⟨_, rfl, r64⟩ := R60
  obtain ⟨a62, c63, rfl, h65, h66⟩ := Sl.shape r64
  unfold maxLen at h66
  have h65 : gx.length ≤ c63 := h65
  have r64 : Tns _ (.slice a62 gx.length c63) gx := r64
  simp only [pS, pN, pA, pC, pZ]
  refine do_ rfl (.tuple #[(.slice a62 gx.length c63), (.int .i64 0)]) (ex_move _) ?_
  simp only [pS, pN, pA, pC, pZ]
  refine do_ rfl (.slice a62 gx.length c63) (ex_extract rfl rfl) ?_
  simp only [pS, pN, pA, pC, pZ]
  refine do_ rfl (.int .i64 0) (ex_extract rfl rfl) ?_
  simp only [pS, pN, pA, pC, pZ]
  refine do_ rfl (.slice a62 gx.length c63) (ex_assign _) ?_
  simp only [pS, pN, pA, pC, pZ]
  refine do_ rfl (.int .i64 0) (ex_assign _) ?_
  simp only [pS, pN, pA, pC, pZ]
  refine wl_nil (hK47 _ _ ?_)
  refine wp_seq_k (fun K67 hK67 => region_wl ?_)
  refine do_ rfl (.int .i64 0) (ex_move _) ?_
  simp only [pS, pN, pA, pC, pZ]
  refine do_ rfl (.bool false) (ex_neq (b := false) rfl rfl (by decide)) ?_
  simp only [pS, pN, pA, pC, pZ]
  refine wl_nil (hK67 _ _ ?_)
  refine wp_cond_false rfl ?_
  refine wp_skip ?_
  refine hK22 _ _ ?_
  refine region_wl ?_
  refine do_ rfl (.int .i64 (((k + 1) : Nat) : Int)) (ex_add (m := ((k : Nat) : Int)) (n := (1 : Int)) (r := (((k + 1) : Nat) : Int)) rfl rfl (by omega) (by omega) (by omega)) ?_
  simp only [pS, pN, pA, pC, pZ]
  refine do_ rfl (.int .i64 (((k + 1) : Nat) : Int)) (ex_move _) ?_
  simp only [pS, pN, pA, pC, pZ]
  refine wl_nil ?_
  have S57 := St.drop S57 (L' := [⟨n2, [(.int .i64 ((m.turn : Nat) : Int)), (.slice x1 m.writes.length y1)], 72⟩]) (.cons _ (List.Sublist.refl _))
  exact hK19 _ _ _ (by omega) ⟨(k + 1), F58, _, rfl, rfl, rfl, S57, ((le18.trans le52).trans le59), (by omega)⟩
 ·refine do_ rfl (.bool false) (ex_lss (m := ((k : Nat) : Int)) (n := ((m.writes.length : Nat) : Int)) (b := false) rfl rfl (decide_eq_false (by omega))) ?_
  simp only [pS, pN, pA, pC, pZ]
  refine wl_nil (hK20 _ _ ?_)
  refine wp_seq_k (fun K68 hK68 => ?_)
  refine wp_cond_false rfl ?_
  refine wp_exit ?_
  refine hK9 _ _ ?_
  refine wp_seq_k (fun K69 hK69 => region_wl ?_)
  refine do_ rfl (.int .i64 0) (ex_assign _) ?_
  simp only [pS, pN, pA, pC, pZ]
  refine wl_nil (hK69 _ _ ?_)
  refine wp_ret ?_
  (try simp only [Exit.then, Exit.inBlock, ↓reduceIte, Nat.reduceEqDiff])
  refine bodyPost_ret (v := (.int .i64 0)) ?_ rfl ?_
  ·exact res_t rfl rfl
  ·exact ⟨rfl, S17.gr.below⟩
set_option maxHeartbeats 8000000 in
theorem folded_spec (F : Fz) (w : World) (u : Value) (cs : List Cm) (n : Nat) (hs : Sat w F) (hl : Cms F u cs) {m : Nat} (hh : HistOk m cs) (hm : m ≤ 60) (h300 : cs.length ≤ 300) (hn : n ≤ cs.length) :
    Calls Tryd.prog 54 #[u, .int .i64 (n : Int)] w (Gives w F (TnsE (stateC cs n) 0)) := by
 obtain ⟨a, c, rfl, hc1, hc2⟩ := Sl.shape hl
 unfold maxLen at hc2
 have S := St.start hs
 go_enter Tryd.func54, Tryd.ntmps54
 refine wp_seq_k (fun K1 hK1 => region_wl ?_)
 refine do_ rfl (.slice none 0 0) (ex_assign _) ?_
 simp only [pS, pN, pA, pC, pZ]
 refine do_ rfl (.int .i64 0) (ex_assign _) ?_
 simp only [pS, pN, pA, pC, pZ]
 refine wl_nil (hK1 _ _ ?_)
 refine wp_seq_k (fun K2 hK2 => ?_)
 refine wp_seq_k (fun K3 hK3 => region_wl ?_)
 refine do_ rfl (.slice a cs.length c) (ex_move _) ?_
 simp only [pS, pN, pA, pC, pZ]
 refine do_ rfl (.int .i64 ((cs.length : Nat) : Int)) (ex_len Tryd.underlying60 rfl) ?_
 simp only [pS, pN, pA, pC, pZ]
 refine do_ rfl (.bool false) (ex_gtr (m := ((cs.length : Nat) : Int)) (n := (300 : Int)) (b := false) rfl rfl (decide_eq_false (by omega))) ?_
 simp only [pS, pN, pA, pC, pZ]
 refine wl_nil (hK3 _ _ ?_)
 refine wp_cond_false rfl ?_
 refine wp_skip ?_
 refine hK2 _ _ ?_
 refine wp_seq_k (fun K4 hK4 => region_wl ?_)
 refine do_ rfl (.slice none 0 0) (ex_assign _) ?_
 simp only [pS, pN, pA, pC, pZ]
 refine do_ rfl (.slice none 0 0) (ex_assign _) ?_
 simp only [pS, pN, pA, pC, pZ]
 refine wl_nil (hK4 _ _ ?_)
 refine wp_seq_k (fun K5 hK5 => ?_)
 refine wp_seq_k (fun K6 hK6 => region_wl ?_)
 refine do_ rfl (.slice a cs.length c) (ex_move _) ?_
 simp only [pS, pN, pA, pC, pZ]
 refine do_ rfl (.int .i64 ((cs.length : Nat) : Int)) (ex_len Tryd.underlying60 rfl) ?_
 simp only [pS, pN, pA, pC, pZ]
 refine do_ rfl (.int .i64 0) (ex_move _) ?_
 simp only [pS, pN, pA, pC, pZ]
 refine wl_nil (hK6 _ _ ?_)
 refine wp_block ?_
 refine wp_loop_g (fun mm aa w9 => ∃ (k : Nat) (v : Value) (u : Value) (F7 : Fz) (u8 : Nat → Value), mm = cs.length - k ∧ u8 = slots aa ∧ aa = ⟨#[(.slice a cs.length c), (.int .i64 ((n : Nat) : Int)), undef, undef, (u8 4), (u8 5), v, u, (u8 8), (u8 9), (u8 10), (u8 11), (u8 12), (.slice a cs.length c), (.int .i64 ((cs.length : Nat) : Int)), (.bool false), (.slice a cs.length c), (.int .i64 ((cs.length : Nat) : Int)), (.int .i64 ((k : Nat) : Int)), (u8 19), (u8 20), (u8 21), (u8 22), (u8 23), (u8 24), (u8 25), (u8 26), (u8 27), (u8 28), (u8 29), (u8 30), (u8 31), (u8 32), (u8 33), (u8 34), (u8 35), (u8 36), (u8 37), (u8 38), (u8 39), (u8 40), (u8 41), (u8 42), (u8 43), (u8 44), (u8 45), (u8 46), (u8 47), (u8 48), (u8 49), undef], []⟩ ∧ St w F w9 F7 [] [] ∧ Le F F7 ∧ (k ≤ cs.length) ∧ (Tns F7 v (stateC cs k)) ∧ (Tns F7 u (stateC cs (if n ≤ k then n else 0)))) _ ⟨0, (.slice none 0 0), (.slice none 0 0), F, _, rfl, rfl, rfl, S, Le.refl _, (by omega), (Sl.nil _ _ _), (by rw [show (if n ≤ 0 then n else 0) = 0 from by split <;> omega]; exact Sl.nil _ _ _)⟩ ?_
 rintro m10 a11 w12 ⟨k, v, u, F7, u8, rfl, -, rfl, S13, le14, hk, hvf, huf⟩ K15 hK15
 refine wp_seq_k (fun K16 hK16 => region_wl ?_)
 by_cases hc19 : k < cs.length
 ·refine do_ rfl (.bool true) (ex_lss (m := ((k : Nat) : Int)) (n := ((cs.length : Nat) : Int)) (b := true) rfl rfl (decide_eq_true (by omega))) ?_
  simp only [pS, pN, pA, pC, pZ]
  refine wl_nil (hK16 _ _ ?_)
  refine wp_seq_k (fun K17 hK17 => ?_)
  refine wp_cond_true rfl ?_
  refine wp_skip ?_
  refine hK17 _ _ ?_
  refine wp_seq_k (fun K18 hK18 => ?_)
  refine wp_block ?_
  refine wp_seq_k (fun K19 hK19 => ?_)
  obtain ⟨p, hp⟩ : ∃ p, cs[k]? = some p := ⟨cs[k], List.getElem?_eq_getElem hc19⟩
  have hpo := hh.ok p (List.mem_of_getElem? hp)
  have hpt : p.turn = k + 1 := by have := hh.turn k hc19; rw [List.getElem?_eq_getElem hc19] at hp; cases hp; exact this
  have okk := (state_ok hh k).mono hm
  have hae : applyE (stateC cs k) p.writes = (0, stateC cs (k + 1)) := by have h := state_next hh hc19; rw [List.getElem?_eq_getElem hc19] at hp; cases hp; rw [applyE_ok hpo.ok hpo.some.2, h]
  obtain ⟨b20, o21, ha22, xa25, xc26, c23, c24, r27⟩ := Cms.get (hl.mono le14) hp
  refine region_wl ?_
  refine do_ rfl (.int .i64 ((k : Nat) : Int)) (ex_move _) ?_
  simp only [pS, pN, pA, pC, pZ]
  refine do_ rfl (.pointer (some ⟨b20, o21 + k * 2, none⟩)) (ex_at (i := k) (sz := 2) Tryd.underlying60 (sizeof_72 _) rfl ha22 rfl (by omega) rfl) ?_
  simp only [pS, pN, pA, pC, pZ]
  refine do_ rfl (.agg #[(.int .i64 ((p.turn : Nat) : Int)), (.slice xa25 p.writes.length xc26)]) (ex_load rfl (loadN (cs := [(.int .i64 ((p.turn : Nat) : Int)), (.slice xa25 p.writes.length xc26)]) Tryd.underlying72 rfl (size_72) (range2 (St.fz S13 c23) (St.fz S13 c24)))) ?_
  simp only [pS, pN, pA, pC, pZ]
  refine stNew S13 (v := fun n => .pointer (some ⟨n, 0, none⟩)) rfl (ex_alloc (zero_72 _)) (fun n28 w29 S30 => ?_)
  simp only [pS, pN, pA, pC, pZ]
  have S30 : St w F w29 F7 [⟨n28, [(.int .i64 0), (.slice none 0 0)], 72⟩] [] := S30
  refine do_ rfl (.int .i64 ((k : Nat) : Int)) (ex_assign _) ?_
  simp only [pS, pN, pA, pC, pZ]
  refine stStore (i := 0) (v := (.agg #[(.int .i64 ((p.turn : Nat) : Int)), (.slice xa25 p.writes.length xc26)])) S30 rfl rfl rfl rfl (size_72) (allc2 rfl rfl) (Nat.le_of_ble_eq_true rfl) (fun w31 S32 => ?_)
  simp only [pS, pN, pA, pC, pZ]
  have S32 : St w F w31 F7 [⟨n28, [(.int .i64 ((p.turn : Nat) : Int)), (.slice xa25 p.writes.length xc26)], 72⟩] [] := S32
  refine wl_nil (hK19 _ _ ?_)
  refine wp_seq_k (fun K33 hK33 => ?_)
  refine wp_seq_k (fun K34 hK34 => region_wl ?_)
  refine do_ rfl (.agg #[(.int .i64 ((p.turn : Nat) : Int)), (.slice xa25 p.writes.length xc26)]) (ex_load rfl (loadN (cs := [(.int .i64 ((p.turn : Nat) : Int)), (.slice xa25 p.writes.length xc26)]) Tryd.underlying72 rfl (size_72) (St.range S32 (i := 0) rfl 0 [(.int .i64 ((p.turn : Nat) : Int)), (.slice xa25 p.writes.length xc26)] (sub_range 0 rfl)))) ?_
  simp only [pS, pN, pA, pC, pZ]
  refine stTells (v := (.int .i64 0)) S32 rfl (ex_fn (vs := #[(.agg #[(.int .i64 ((p.turn : Nat) : Int)), (.slice xa25 p.writes.length xc26)])]) (map1 rfl) rfl (ent_56 _ _)) (tapeCheckOk_spec _ _ _ p (S32).sat ⟨_, _, rfl, r27⟩ hpo) (fun w35 S36 => ?_)
  simp only [pS, pN, pA, pC, pZ]
  refine do_ rfl (.int .i64 0) (ex_assign _) ?_
  simp only [pS, pN, pA, pC, pZ]
  refine wl_nil (hK34 _ _ ?_)
  refine wp_seq_k (fun K37 hK37 => region_wl ?_)
  refine do_ rfl (.int .i64 0) (ex_move _) ?_
  simp only [pS, pN, pA, pC, pZ]
  refine do_ rfl (.bool false) (ex_neq (b := false) rfl rfl (by decide)) ?_
  simp only [pS, pN, pA, pC, pZ]
  refine wl_nil (hK37 _ _ ?_)
  refine wp_cond_false rfl ?_
  refine wp_skip ?_
  refine hK33 _ _ ?_
  refine wp_seq_k (fun K38 hK38 => ?_)
  refine wp_seq_k (fun K39 hK39 => region_wl ?_)
  refine do_ rfl (.pointer (some ⟨n28, 0, none⟩)) (ex_field (q := ⟨n28, 0, none⟩) rfl (fa_72_0 _ _)) ?_
  simp only [pS, pN, pA, pC, pZ]
  refine do_ rfl (.int .i64 ((p.turn : Nat) : Int)) (ex_load rfl (load1 (nagg_3 _) (St.cell S36 (i := 0) rfl rfl))) ?_
  simp only [pS, pN, pA, pC, pZ]
  refine do_ rfl (.int .i64 ((k : Nat) : Int)) (ex_move _) ?_
  simp only [pS, pN, pA, pC, pZ]
  refine do_ rfl (.int .i64 (((k + 1) : Nat) : Int)) (ex_add (m := ((k : Nat) : Int)) (n := (1 : Int)) (r := (((k + 1) : Nat) : Int)) rfl rfl (by omega) (by omega) (by omega)) ?_
  simp only [pS, pN, pA, pC, pZ]
  refine do_ rfl (.bool false) (ex_neq (m := ((p.turn : Nat) : Int)) (n := (((k + 1) : Nat) : Int)) (b := false) rfl rfl (bne_eq_false_iff_eq.2 (by omega))) ?_
  simp only [pS, pN, pA, pC, pZ]
  refine wl_nil (hK39 _ _ ?_)
  refine wp_cond_false rfl ?_
  refine wp_skip ?_
  refine hK38 _ _ ?_
  refine wp_seq_k (fun K40 hK40 => region_wl ?_)
  refine do_ rfl v (ex_move _) ?_
  simp only [pS, pN, pA, pC, pZ]
  refine do_ rfl (.pointer (some ⟨n28, 1, none⟩)) (ex_field (q := ⟨n28, 1, none⟩) rfl (fa_72_1 _ _)) ?_
  simp only [pS, pN, pA, pC, pZ]
  refine do_ rfl (.slice xa25 p.writes.length xc26) (ex_load rfl (load1 (nagg_37 _) (St.cell S36 (i := 0) rfl rfl))) ?_
  simp only [pS, pN, pA, pC, pZ]
  refine stGives S36 rfl (ex_fn (vs := #[v, (.slice xa25 p.writes.length xc26)]) (map2 rfl rfl) rfl (ent_16 _ _)) (apply_is (S36).sat hvf r27 okk hpo.ok hae) ?_
  intro v46 w41 F43 S42 le44 R45
  obtain ⟨_, rfl, r49⟩ := R45
  obtain ⟨a47, c48, rfl, h50, h51⟩ := Sl.shape r49
  unfold maxLen at h51
  have h50 : (stateC cs (k + 1)).length ≤ c48 := h50
  have r49 : Tns _ (.slice a47 (stateC cs (k + 1)).length c48) (stateC cs (k + 1)) := r49
  simp only [pS, pN, pA, pC, pZ]
  refine do_ rfl (.tuple #[(.slice a47 (stateC cs (k + 1)).length c48), (.int .i64 0)]) (ex_move _) ?_
  simp only [pS, pN, pA, pC, pZ]
  refine do_ rfl (.slice a47 (stateC cs (k + 1)).length c48) (ex_extract rfl rfl) ?_
  simp only [pS, pN, pA, pC, pZ]
  refine do_ rfl (.int .i64 0) (ex_extract rfl rfl) ?_
  simp only [pS, pN, pA, pC, pZ]
  refine do_ rfl (.slice a47 (stateC cs (k + 1)).length c48) (ex_assign _) ?_
  simp only [pS, pN, pA, pC, pZ]
  refine do_ rfl (.int .i64 0) (ex_assign _) ?_
  simp only [pS, pN, pA, pC, pZ]
  refine wl_nil (hK40 _ _ ?_)
  refine wp_seq_k (fun K52 hK52 => ?_)
  refine wp_seq_k (fun K53 hK53 => region_wl ?_)
  refine do_ rfl (.int .i64 0) (ex_move _) ?_
  simp only [pS, pN, pA, pC, pZ]
  refine do_ rfl (.bool false) (ex_neq (b := false) rfl rfl (by decide)) ?_
  simp only [pS, pN, pA, pC, pZ]
  refine wl_nil (hK53 _ _ ?_)
  refine wp_cond_false rfl ?_
  refine wp_skip ?_
  refine hK52 _ _ ?_
  refine wp_seq_k (fun K54 hK54 => region_wl ?_)
  refine do_ rfl (.slice a47 (stateC cs (k + 1)).length c48) (ex_move _) ?_
  simp only [pS, pN, pA, pC, pZ]
  refine do_ rfl (.slice a47 (stateC cs (k + 1)).length c48) (ex_assign _) ?_
  simp only [pS, pN, pA, pC, pZ]
  refine wl_nil (hK54 _ _ ?_)
  refine wp_seq_k (fun K55 hK55 => region_wl ?_)
  refine do_ rfl (.int .i64 ((k : Nat) : Int)) (ex_move _) ?_
  simp only [pS, pN, pA, pC, pZ]
  refine do_ rfl (.int .i64 (((k + 1) : Nat) : Int)) (ex_add (m := ((k : Nat) : Int)) (n := (1 : Int)) (r := (((k + 1) : Nat) : Int)) rfl rfl (by omega) (by omega) (by omega)) ?_
  simp only [pS, pN, pA, pC, pZ]
  refine do_ rfl (.int .i64 ((n : Nat) : Int)) (ex_move _) ?_
  simp only [pS, pN, pA, pC, pZ]
  by_cases hc47 : (k + 1) = n
  ·refine do_ rfl (.bool true) (ex_eql (m := (((k + 1) : Nat) : Int)) (n := ((n : Nat) : Int)) (b := true) rfl rfl (beq_iff_eq.2 (by omega))) ?_
   simp only [pS, pN, pA, pC, pZ]
   refine wl_nil (hK55 _ _ ?_)
   refine wp_cond_true rfl ?_
   refine region_wl ?_
   refine do_ rfl (.slice a47 (stateC cs (k + 1)).length c48) (ex_move _) ?_
   simp only [pS, pN, pA, pC, pZ]
   refine do_ rfl (.slice a47 (stateC cs (k + 1)).length c48) (ex_assign _) ?_
   simp only [pS, pN, pA, pC, pZ]
   refine wl_nil (hK18 _ _ ?_)
   refine region_wl ?_
   refine do_ rfl (.int .i64 (((k + 1) : Nat) : Int)) (ex_add (m := ((k : Nat) : Int)) (n := (1 : Int)) (r := (((k + 1) : Nat) : Int)) rfl rfl (by omega) (by omega) (by omega)) ?_
   simp only [pS, pN, pA, pC, pZ]
   refine do_ rfl (.int .i64 (((k + 1) : Nat) : Int)) (ex_move _) ?_
   simp only [pS, pN, pA, pC, pZ]
   refine wl_nil ?_
   have S42 := St.drop S42 (L' := []) (.cons _ (List.Sublist.refl _))
   exact hK15 _ _ _ (by omega) ⟨(k + 1), (.slice a47 (stateC cs (k + 1)).length c48), (.slice a47 (stateC cs (k + 1)).length c48), F43, _, rfl, rfl, rfl, S42, (le14.trans le44), (by omega), r49, (by rw [if_pos (by omega), show n = k + 1 from by omega]; exact r49)⟩
  ·refine do_ rfl (.bool false) (ex_eql (m := (((k + 1) : Nat) : Int)) (n := ((n : Nat) : Int)) (b := false) rfl rfl (beq_eq_false_iff_ne.2 (by omega))) ?_
   simp only [pS, pN, pA, pC, pZ]
   refine wl_nil (hK55 _ _ ?_)
   refine wp_cond_false rfl ?_
   refine wp_skip ?_
   refine hK18 _ _ ?_
   refine region_wl ?_
   refine do_ rfl (.int .i64 (((k + 1) : Nat) : Int)) (ex_add (m := ((k : Nat) : Int)) (n := (1 : Int)) (r := (((k + 1) : Nat) : Int)) rfl rfl (by omega) (by omega) (by omega)) ?_
   simp only [pS, pN, pA, pC, pZ]
   refine do_ rfl (.int .i64 (((k + 1) : Nat) : Int)) (ex_move _) ?_
   simp only [pS, pN, pA, pC, pZ]
   refine wl_nil ?_
   have S42 := St.drop S42 (L' := []) (.cons _ (List.Sublist.refl _))
   exact hK15 _ _ _ (by omega) ⟨(k + 1), (.slice a47 (stateC cs (k + 1)).length c48), u, F43, _, rfl, rfl, rfl, S42, (le14.trans le44), (by omega), r49, (by rw [show (if n ≤ k + 1 then n else 0) = (if n ≤ k then n else 0) from by split <;> split <;> omega]; exact (huf.mono le44))⟩
 ·refine do_ rfl (.bool false) (ex_lss (m := ((k : Nat) : Int)) (n := ((cs.length : Nat) : Int)) (b := false) rfl rfl (decide_eq_false (by omega))) ?_
  simp only [pS, pN, pA, pC, pZ]
  refine wl_nil (hK16 _ _ ?_)
  refine wp_seq_k (fun K56 hK56 => ?_)
  refine wp_cond_false rfl ?_
  refine wp_exit ?_
  refine hK5 _ _ ?_
  refine wp_seq_k (fun K57 hK57 => region_wl ?_)
  refine do_ rfl u (ex_move _) ?_
  simp only [pS, pN, pA, pC, pZ]
  refine do_ rfl u (ex_assign _) ?_
  simp only [pS, pN, pA, pC, pZ]
  refine do_ rfl (.int .i64 0) (ex_assign _) ?_
  simp only [pS, pN, pA, pC, pZ]
  refine wl_nil (hK57 _ _ ?_)
  refine wp_ret ?_
  (try simp only [Exit.then, Exit.inBlock, ↓reduceIte, Nat.reduceEqDiff])
  refine bodyPost_ret (v := (.tuple #[u, (.int .i64 0)])) ?_ rfl ?_
  ·exact res_tt rfl rfl rfl
  ·exact ⟨_, _, rfl, S13.gr, _, rfl, by have := huf; rwa [show (if n ≤ k then n else 0) = n from by rw [if_pos (by omega)]] at this⟩
set_option maxHeartbeats 8000000 in
theorem fold_spec (F : Fz) (w : World) (u : Value) (cs : List Cm) (n : Nat) (hs : Sat w F) (hl : Cms F u cs) {m : Nat} (hh : HistOk m cs) (hm : m ≤ 60) (h300 : cs.length ≤ 300) (hn : n ≤ cs.length) :
    Calls Tryd.prog 26 #[u, .int .i64 (n : Int)] w (Gives w F (TnsE (stateC cs n) 0)) := by
 obtain ⟨a, c, rfl, hc1, hc2⟩ := Sl.shape hl
 unfold maxLen at hc2
 have S := St.start hs
 go_enter Tryd.func26, Tryd.ntmps26
 refine wp_seq_k (fun K1 hK1 => region_wl ?_)
 refine do_ rfl (.slice none 0 0) (ex_assign _) ?_
 simp only [pS, pN, pA, pC, pZ]
 refine do_ rfl (.int .i64 0) (ex_assign _) ?_
 simp only [pS, pN, pA, pC, pZ]
 refine wl_nil (hK1 _ _ ?_)
 refine wp_seq_k (fun K2 hK2 => region_wl ?_)
 refine do_ rfl (.slice a cs.length c) (ex_move _) ?_
 simp only [pS, pN, pA, pC, pZ]
 refine do_ rfl (.int .i64 ((n : Nat) : Int)) (ex_move _) ?_
 simp only [pS, pN, pA, pC, pZ]
 refine stGives S rfl (ex_fn (vs := #[(.slice a cs.length c), (.int .i64 ((n : Nat) : Int))]) (map2 rfl rfl) rfl (ent_54 _ _)) (folded_spec _ _ _ cs n (S).sat hl hh hm h300 (by omega)) ?_
 intro v8 w3 F5 S4 le6 R7
 obtain ⟨_, rfl, r11⟩ := R7
 obtain ⟨a9, c10, rfl, h12, h13⟩ := Sl.shape r11
 unfold maxLen at h13
 have h12 : (stateC cs n).length ≤ c10 := h12
 have r11 : Tns _ (.slice a9 (stateC cs n).length c10) (stateC cs n) := r11
 simp only [pS, pN, pA, pC, pZ]
 refine do_ rfl (.tuple #[(.slice a9 (stateC cs n).length c10), (.int .i64 0)]) (ex_move _) ?_
 simp only [pS, pN, pA, pC, pZ]
 refine do_ rfl (.slice a9 (stateC cs n).length c10) (ex_extract rfl rfl) ?_
 simp only [pS, pN, pA, pC, pZ]
 refine do_ rfl (.int .i64 0) (ex_extract rfl rfl) ?_
 simp only [pS, pN, pA, pC, pZ]
 refine do_ rfl (.slice a9 (stateC cs n).length c10) (ex_assign _) ?_
 simp only [pS, pN, pA, pC, pZ]
 refine do_ rfl (.int .i64 0) (ex_assign _) ?_
 simp only [pS, pN, pA, pC, pZ]
 refine wl_nil (hK2 _ _ ?_)
 refine wp_seq_k (fun K14 hK14 => ?_)
 refine wp_seq_k (fun K15 hK15 => region_wl ?_)
 refine do_ rfl (.int .i64 0) (ex_move _) ?_
 simp only [pS, pN, pA, pC, pZ]
 refine do_ rfl (.bool false) (ex_neq (b := false) rfl rfl (by decide)) ?_
 simp only [pS, pN, pA, pC, pZ]
 refine wl_nil (hK15 _ _ ?_)
 refine wp_cond_false rfl ?_
 refine wp_skip ?_
 refine hK14 _ _ ?_
 refine wp_seq_k (fun K16 hK16 => ?_)
 refine wp_seq_k (fun K17 hK17 => region_wl ?_)
 refine do_ rfl (.int .i64 ((n : Nat) : Int)) (ex_move _) ?_
 simp only [pS, pN, pA, pC, pZ]
 refine do_ rfl (.bool false) (ex_lss (m := ((n : Nat) : Int)) (n := (0 : Int)) (b := false) rfl rfl (decide_eq_false (by omega))) ?_
 simp only [pS, pN, pA, pC, pZ]
 refine do_ rfl (.bool false) (ex_move _) ?_
 simp only [pS, pN, pA, pC, pZ]
 refine do_ rfl (.int .i64 ((n : Nat) : Int)) (ex_move _) ?_
 simp only [pS, pN, pA, pC, pZ]
 refine do_ rfl (.slice a cs.length c) (ex_move _) ?_
 simp only [pS, pN, pA, pC, pZ]
 refine do_ rfl (.int .i64 ((cs.length : Nat) : Int)) (ex_len Tryd.underlying60 rfl) ?_
 simp only [pS, pN, pA, pC, pZ]
 refine do_ rfl (.bool false) (ex_gtr (m := ((n : Nat) : Int)) (n := ((cs.length : Nat) : Int)) (b := false) rfl rfl (decide_eq_false (by omega))) ?_
 simp only [pS, pN, pA, pC, pZ]
 refine do_ rfl (.bool false) (ex_pick (b := false) rfl) ?_
 simp only [pS, pN, pA, pC, pZ]
 refine wl_nil (hK17 _ _ ?_)
 refine wp_cond_false rfl ?_
 refine wp_skip ?_
 refine hK16 _ _ ?_
 refine wp_seq_k (fun K18 hK18 => region_wl ?_)
 refine do_ rfl (.slice a9 (stateC cs n).length c10) (ex_move _) ?_
 simp only [pS, pN, pA, pC, pZ]
 refine do_ rfl (.slice a9 (stateC cs n).length c10) (ex_assign _) ?_
 simp only [pS, pN, pA, pC, pZ]
 refine do_ rfl (.int .i64 0) (ex_assign _) ?_
 simp only [pS, pN, pA, pC, pZ]
 refine wl_nil (hK18 _ _ ?_)
 refine wp_ret ?_
 (try simp only [Exit.then, Exit.inBlock, ↓reduceIte, Nat.reduceEqDiff])
 refine bodyPost_ret (v := (.tuple #[(.slice a9 (stateC cs n).length c10), (.int .i64 0)])) ?_ rfl ?_
 ·exact res_tt rfl rfl rfl
 ·exact ⟨_, _, rfl, S4.gr, _, rfl, r11⟩
set_option maxHeartbeats 8000000 in
theorem foldedNil_spec (F : Fz) (w : World) (hs : Sat w F) :
    Calls Tryd.prog 54 #[.slice none 0 0, .int .i64 1] w (Gives w F (TnsE [] 0)) := by
 have S := St.start hs
 go_enter Tryd.func54, Tryd.ntmps54
 refine wp_seq_k (fun K1 hK1 => region_wl ?_)
 refine do_ rfl (.slice none 0 0) (ex_assign _) ?_
 simp only [pS, pN, pA, pC, pZ]
 refine do_ rfl (.int .i64 0) (ex_assign _) ?_
 simp only [pS, pN, pA, pC, pZ]
 refine wl_nil (hK1 _ _ ?_)
 refine wp_seq_k (fun K2 hK2 => ?_)
 refine wp_seq_k (fun K3 hK3 => region_wl ?_)
 refine do_ rfl (.slice none 0 0) (ex_move _) ?_
 simp only [pS, pN, pA, pC, pZ]
 refine do_ rfl (.int .i64 0) (ex_len Tryd.underlying60 rfl) ?_
 simp only [pS, pN, pA, pC, pZ]
 refine do_ rfl (.bool false) (ex_gtr (b := false) rfl rfl (by decide)) ?_
 simp only [pS, pN, pA, pC, pZ]
 refine wl_nil (hK3 _ _ ?_)
 refine wp_cond_false rfl ?_
 refine wp_skip ?_
 refine hK2 _ _ ?_
 refine wp_seq_k (fun K4 hK4 => region_wl ?_)
 refine do_ rfl (.slice none 0 0) (ex_assign _) ?_
 simp only [pS, pN, pA, pC, pZ]
 refine do_ rfl (.slice none 0 0) (ex_assign _) ?_
 simp only [pS, pN, pA, pC, pZ]
 refine wl_nil (hK4 _ _ ?_)
 refine wp_seq_k (fun K5 hK5 => ?_)
 refine wp_seq_k (fun K6 hK6 => region_wl ?_)
 refine do_ rfl (.slice none 0 0) (ex_move _) ?_
 simp only [pS, pN, pA, pC, pZ]
 refine do_ rfl (.int .i64 0) (ex_len Tryd.underlying60 rfl) ?_
 simp only [pS, pN, pA, pC, pZ]
 refine do_ rfl (.int .i64 0) (ex_move _) ?_
 simp only [pS, pN, pA, pC, pZ]
 refine wl_nil (hK6 _ _ ?_)
 refine wp_block ?_
 refine wp_loop_g (fun mm aa w8 => ∃  (u7 : Nat → Value), mm = 0 ∧ u7 = slots aa ∧ aa = ⟨#[(.slice none 0 0), (.int .i64 1), undef, undef, (u7 4), (u7 5), (.slice none 0 0), (.slice none 0 0), (u7 8), (u7 9), (u7 10), (u7 11), (u7 12), (.slice none 0 0), (.int .i64 0), (.bool false), (.slice none 0 0), (.int .i64 0), (.int .i64 0), (u7 19), (u7 20), (u7 21), (u7 22), (u7 23), (u7 24), (u7 25), (u7 26), (u7 27), (u7 28), (u7 29), (u7 30), (u7 31), (u7 32), (u7 33), (u7 34), (u7 35), (u7 36), (u7 37), (u7 38), (u7 39), (u7 40), (u7 41), (u7 42), (u7 43), (u7 44), (u7 45), (u7 46), (u7 47), (u7 48), (u7 49), undef], []⟩ ∧ St w F w8 F [] []) _ ⟨_, rfl, rfl, rfl, S⟩ ?_
 rintro m9 a10 w11 ⟨u7, rfl, -, rfl, S12⟩ K14 hK14
 refine wp_seq_k (fun K15 hK15 => region_wl ?_)
 refine do_ rfl (.bool false) (ex_lss (b := false) rfl rfl (by decide)) ?_
 simp only [pS, pN, pA, pC, pZ]
 refine wl_nil (hK15 _ _ ?_)
 refine wp_seq_k (fun K16 hK16 => ?_)
 refine wp_cond_false rfl ?_
 refine wp_exit ?_
 refine hK5 _ _ ?_
 refine wp_seq_k (fun K17 hK17 => region_wl ?_)
 refine do_ rfl (.slice none 0 0) (ex_move _) ?_
 simp only [pS, pN, pA, pC, pZ]
 refine do_ rfl (.slice none 0 0) (ex_assign _) ?_
 simp only [pS, pN, pA, pC, pZ]
 refine do_ rfl (.int .i64 0) (ex_assign _) ?_
 simp only [pS, pN, pA, pC, pZ]
 refine wl_nil (hK17 _ _ ?_)
 refine wp_ret ?_
 (try simp only [Exit.then, Exit.inBlock, ↓reduceIte, Nat.reduceEqDiff])
 refine bodyPost_ret (v := (.tuple #[(.slice none 0 0), (.int .i64 0)])) ?_ rfl ?_
 ·exact res_tt rfl rfl rfl
 ·exact ⟨_, _, rfl, S12.gr, _, rfl, Sl.nil _ _ _⟩
set_option maxHeartbeats 8000000 in
theorem foldNil_spec (F : Fz) (w : World) (hs : Sat w F) :
    Calls Tryd.prog 26 #[.slice none 0 0, .int .i64 1] w (Gives w F (TnsE [] 2)) := by
 have S := St.start hs
 go_enter Tryd.func26, Tryd.ntmps26
 refine wp_seq_k (fun K1 hK1 => region_wl ?_)
 refine do_ rfl (.slice none 0 0) (ex_assign _) ?_
 simp only [pS, pN, pA, pC, pZ]
 refine do_ rfl (.int .i64 0) (ex_assign _) ?_
 simp only [pS, pN, pA, pC, pZ]
 refine wl_nil (hK1 _ _ ?_)
 refine wp_seq_k (fun K2 hK2 => region_wl ?_)
 refine do_ rfl (.slice none 0 0) (ex_move _) ?_
 simp only [pS, pN, pA, pC, pZ]
 refine do_ rfl (.int .i64 1) (ex_move _) ?_
 simp only [pS, pN, pA, pC, pZ]
 refine stGives S rfl (ex_fn (vs := #[(.slice none 0 0), (.int .i64 1)]) (map2 rfl rfl) rfl (ent_54 _ _)) (foldedNil_spec _ _ (S).sat) ?_
 intro v8 w3 F5 S4 le6 R7
 obtain ⟨_, rfl, r11⟩ := R7
 obtain ⟨a9, c10, rfl, h12, h13⟩ := Sl.shape r11
 unfold maxLen at h13
 simp only [pS, pN, pA, pC, pZ]
 refine do_ rfl (.tuple #[(.slice a9 ([] : Forest).length c10), (.int .i64 0)]) (ex_move _) ?_
 simp only [pS, pN, pA, pC, pZ]
 refine do_ rfl (.slice a9 ([] : Forest).length c10) (ex_extract rfl rfl) ?_
 simp only [pS, pN, pA, pC, pZ]
 refine do_ rfl (.int .i64 0) (ex_extract rfl rfl) ?_
 simp only [pS, pN, pA, pC, pZ]
 refine do_ rfl (.slice a9 ([] : Forest).length c10) (ex_assign _) ?_
 simp only [pS, pN, pA, pC, pZ]
 refine do_ rfl (.int .i64 0) (ex_assign _) ?_
 simp only [pS, pN, pA, pC, pZ]
 refine wl_nil (hK2 _ _ ?_)
 refine wp_seq_k (fun K14 hK14 => ?_)
 refine wp_seq_k (fun K15 hK15 => region_wl ?_)
 refine do_ rfl (.int .i64 0) (ex_move _) ?_
 simp only [pS, pN, pA, pC, pZ]
 refine do_ rfl (.bool false) (ex_neq (b := false) rfl rfl (by decide)) ?_
 simp only [pS, pN, pA, pC, pZ]
 refine wl_nil (hK15 _ _ ?_)
 refine wp_cond_false rfl ?_
 refine wp_skip ?_
 refine hK14 _ _ ?_
 refine wp_seq_k (fun K16 hK16 => ?_)
 refine wp_seq_k (fun K17 hK17 => region_wl ?_)
 refine do_ rfl (.int .i64 1) (ex_move _) ?_
 simp only [pS, pN, pA, pC, pZ]
 refine do_ rfl (.bool false) (ex_lss (b := false) rfl rfl (by decide)) ?_
 simp only [pS, pN, pA, pC, pZ]
 refine do_ rfl (.bool false) (ex_move _) ?_
 simp only [pS, pN, pA, pC, pZ]
 refine do_ rfl (.int .i64 1) (ex_move _) ?_
 simp only [pS, pN, pA, pC, pZ]
 refine do_ rfl (.slice none 0 0) (ex_move _) ?_
 simp only [pS, pN, pA, pC, pZ]
 refine do_ rfl (.int .i64 0) (ex_len Tryd.underlying60 rfl) ?_
 simp only [pS, pN, pA, pC, pZ]
 refine do_ rfl (.bool true) (ex_gtr (b := true) rfl rfl (by decide)) ?_
 simp only [pS, pN, pA, pC, pZ]
 refine do_ rfl (.bool true) (ex_pick (b := false) rfl) ?_
 simp only [pS, pN, pA, pC, pZ]
 refine wl_nil (hK17 _ _ ?_)
 refine wp_cond_true rfl ?_
 refine wp_seq_k (fun K18 hK18 => region_wl ?_)
 refine do_ rfl (.slice none 0 0) (ex_assign _) ?_
 simp only [pS, pN, pA, pC, pZ]
 refine do_ rfl (.int .i64 2) (ex_assign _) ?_
 simp only [pS, pN, pA, pC, pZ]
 refine wl_nil (hK18 _ _ ?_)
 refine wp_ret ?_
 (try simp only [Exit.then, Exit.inBlock, ↓reduceIte, Nat.reduceEqDiff])
 refine bodyPost_ret (v := (.tuple #[(.slice none 0 0), (.int .i64 2)])) ?_ rfl ?_
 ·exact res_tt rfl rfl rfl
 ·exact ⟨_, _, rfl, S4.gr, _, rfl, Sl.nil _ _ _⟩
theorem HistOk.grow {m n : Nat} {cs : List Cm} (h : HistOk m cs) (hm : m ≤ n) : HistOk n cs := ⟨h.turn, h.ok, Nat.le_trans h.size hm, h.fits⟩
theorem chunk_ok {ws : List Wr} (h : ∀ w ∈ ws, WrOk w) {i n : Nat} : ∀ w ∈ (ws.take (i + n)).drop i, WrOk w := fun w hw => h w (List.mem_of_mem_take (List.mem_of_mem_drop hw))
theorem chunk_len {ws : List Wr} {i n : Nat} (h : i + n ≤ ws.length) : ((ws.take (i + n)).drop i).length = n := by rw [List.length_drop, List.length_take]; omega
set_option maxHeartbeats 8000000 in
theorem commits_spec (F : Fz) (w : World) (v : Value) (l : List Pl) (m : Nat) (hs : Sat w F) (hv : Pls F v l) (hm : m ≤ 60) :
    Calls Tryd.prog 25 #[v, .int .i64 (m : Nat)] w (Gives w F fun F' u => ∃ cs, Cms F' u cs ∧ HistOk m cs ∧ cs.length ≤ m) := by
 obtain ⟨a, c, rfl, hc1, hc2⟩ := Sl.shape hv
 unfold maxLen at hc2
 obtain ⟨i72, hi72, hz72, hs72, hb72⟩ := info_parts info_72
 have S := St.start hs
 go_enter Tryd.func25, Tryd.ntmps25
 refine wp_seq_k (fun K1 hK1 => region_wl ?_)
 refine do_ rfl (.slice none 0 0) (ex_assign _) ?_
 simp only [pS, pN, pA, pC, pZ]
 refine wl_nil (hK1 _ _ ?_)
 refine wp_seq_k (fun K2 hK2 => region_wl ?_)
 refine do_ rfl (.slice none 0 0) (ex_assign _) ?_
 simp only [pS, pN, pA, pC, pZ]
 refine wl_nil (hK2 _ _ ?_)
 refine wp_seq_k (fun K3 hK3 => region_wl ?_)
 refine do_ rfl (.slice none 0 0) (ex_assign _) ?_
 simp only [pS, pN, pA, pC, pZ]
 refine wl_nil (hK3 _ _ ?_)
 refine wp_seq_k (fun K4 hK4 => region_wl ?_)
 refine do_ rfl (.slice a l.length c) (ex_move _) ?_
 simp only [pS, pN, pA, pC, pZ]
 refine do_ rfl (.int .i64 ((m : Nat) : Int)) (ex_move _) ?_
 simp only [pS, pN, pA, pC, pZ]
 refine stGives S rfl (ex_fn (vs := #[(.slice a l.length c), (.int .i64 ((m : Nat) : Int))]) (map2 rfl rfl) rfl (ent_37 _ _)) (writes_spec _ _ _ l m (S).sat hv (by omega)) ?_
 intro v10 w5 F7 S6 le8 R9
 obtain ⟨a11, c12, rfl, h13, h14⟩ := Sl.shape R9
 unfold maxLen at h14
 simp only [pS, pN, pA, pC, pZ]
 refine do_ rfl (.slice a11 (writesN l m).length c12) (ex_assign _) ?_
 simp only [pS, pN, pA, pC, pZ]
 refine wl_nil (hK4 _ _ ?_)
 refine wp_seq_k (fun K15 hK15 => ?_)
 refine wp_seq_k (fun K16 hK16 => ?_)
 have hwl := writesN_len l m
 have hwok := writesN_ok l m
 refine region_wl ?_
 refine do_ rfl (.int .i64 0) (ex_assign _) ?_
 simp only [pS, pN, pA, pC, pZ]
 refine wl_nil (hK16 _ _ ?_)
 refine wp_block ?_
 have S17 := St.addNil S6 2 CmC CmC.mono 72 w.heap.size
 refine wp_loop_g (fun mm aa w20 => ∃ (i : Nat) (v : Value) (x : Value) (cs : List Cm) (F18 : Fz) (u19 : Nat → Value), mm = (writesN l m).length - i ∧ u19 = slots aa ∧ aa = ⟨#[(.slice a l.length c), (.int .i64 ((m : Nat) : Int)), undef, undef, (.slice none 0 0), v, x, (.slice a11 (writesN l m).length c12), (.int .i64 ((i : Nat) : Int)), (u19 9), (u19 10), (u19 11), (.slice a l.length c), (.int .i64 ((m : Nat) : Int)), (.slice a11 (writesN l m).length c12), (u19 15), (u19 16), (u19 17), (u19 18), (u19 19), (u19 20), (u19 21), (u19 22), (u19 23), (u19 24), (u19 25), (u19 26), (u19 27), (u19 28), (u19 29), (u19 30), (u19 31), (u19 32), (u19 33), (u19 34), (u19 35), (u19 36), (u19 37), (u19 38), (u19 39), (u19 40), (u19 41), (u19 42), (u19 43), (u19 44), (u19 45), (u19 46), (u19 47), (u19 48), (u19 49), (u19 50), (u19 51), (u19 52), (u19 53), (u19 54), (u19 55), (u19 56), (u19 57), (u19 58), (u19 59), (u19 60), (u19 61), (u19 62), (u19 63), (u19 64), undef], []⟩ ∧ St w F w20 F18 [] [ownP 2 CmC CmC.mono 72 w.heap.size v cs] ∧ Le F7 F18 ∧ (i ≤ (writesN l m).length) ∧ (Tns F18 x (stateC cs cs.length)) ∧ (HistOk i cs) ∧ (cs.length ≤ i)) _ ⟨0, (.slice none 0 0), (.slice none 0 0), [], F7, _, rfl, rfl, rfl, S17, Le.refl _, (by omega), (Sl.nil _ _ _), (HistOk.nil 0), (by simp)⟩ ?_
 rintro m21 a22 w23 ⟨i, v, x, cs, F18, u19, rfl, -, rfl, S24, le25, hi, hx, hh, hcl⟩ K26 hK26
 refine wp_seq_k (fun K27 hK27 => ?_)
 refine wp_seq_k (fun K28 hK28 => region_wl ?_)
 refine do_ rfl (.int .i64 ((i : Nat) : Int)) (ex_move _) ?_
 simp only [pS, pN, pA, pC, pZ]
 refine do_ rfl (.slice a11 (writesN l m).length c12) (ex_move _) ?_
 simp only [pS, pN, pA, pC, pZ]
 refine do_ rfl (.int .i64 (((writesN l m).length : Nat) : Int)) (ex_len Tryd.underlying37 rfl) ?_
 simp only [pS, pN, pA, pC, pZ]
 by_cases hc18 : i < (writesN l m).length
 ·refine do_ rfl (.bool true) (ex_lss (m := ((i : Nat) : Int)) (n := (((writesN l m).length : Nat) : Int)) (b := true) rfl rfl (decide_eq_true (by omega))) ?_
  simp only [pS, pN, pA, pC, pZ]
  refine wl_nil (hK28 _ _ ?_)
  refine wp_cond_true rfl ?_
  refine wp_skip ?_
  refine hK27 _ _ ?_
  refine wp_block ?_
  refine wp_seq_k (fun K29 hK29 => ?_)
  obtain ⟨p, hp⟩ : ∃ p, (writesN l m)[i]? = some p := ⟨(writesN l m)[i], List.getElem?_eq_getElem hc18⟩
  obtain ⟨b30, o31, ha32, xa34, xc35, xa38, xc39, xa43, xc44, c33, c37, c41, c42, r36, r40, r45⟩ := Wrs.get (R9.mono le25) hp
  refine region_wl ?_
  refine do_ rfl (.slice a11 (writesN l m).length c12) (ex_move _) ?_
  simp only [pS, pN, pA, pC, pZ]
  refine do_ rfl (.int .i64 ((i : Nat) : Int)) (ex_move _) ?_
  simp only [pS, pN, pA, pC, pZ]
  refine do_ rfl (.pointer (some ⟨b30, o31 + i * 4, none⟩)) (ex_at (i := i) (sz := 4) Tryd.underlying37 (sizeof_36 _) rfl ha32 rfl (by omega) rfl) ?_
  simp only [pS, pN, pA, pC, pZ]
  refine do_ rfl (.pointer (some ⟨b30, o31 + i * 4 + 1, none⟩)) (ex_field (q := ⟨b30, o31 + i * 4 + 1, none⟩) rfl (fa_36_1 _ _)) ?_
  simp only [pS, pN, pA, pC, pZ]
  refine do_ rfl (.slice xa38 p.key.length xc39) (ex_load rfl (load1 (nagg_23 _) (St.fz S24 c37))) ?_
  simp only [pS, pN, pA, pC, pZ]
  refine do_ rfl (.int .i64 ((p.key.length : Nat) : Int)) (ex_len Tryd.underlying23 rfl) ?_
  simp only [pS, pN, pA, pC, pZ]
  refine do_ rfl (.int .i64 (((p.key.length % 3) : Nat) : Int)) (ex_rem rfl rfl (by decide)) ?_
  simp only [pS, pN, pA, pC, pZ]
  refine do_ rfl (.int .i64 (((1 + (p.key.length % 3)) : Nat) : Int)) (ex_add (m := (1 : Int)) (n := (((p.key.length % 3) : Nat) : Int)) (r := (((1 + (p.key.length % 3)) : Nat) : Int)) rfl rfl (by omega) (by omega) (by omega)) ?_
  simp only [pS, pN, pA, pC, pZ]
  refine do_ rfl (.slice a11 (writesN l m).length c12) (ex_move _) ?_
  simp only [pS, pN, pA, pC, pZ]
  refine do_ rfl (.int .i64 (((writesN l m).length : Nat) : Int)) (ex_len Tryd.underlying37 rfl) ?_
  simp only [pS, pN, pA, pC, pZ]
  refine do_ rfl (.int .i64 ((i : Nat) : Int)) (ex_move _) ?_
  simp only [pS, pN, pA, pC, pZ]
  refine do_ rfl (.int .i64 ((((writesN l m).length - i) : Nat) : Int)) (ex_sub (m := (((writesN l m).length : Nat) : Int)) (n := ((i : Nat) : Int)) (r := ((((writesN l m).length - i) : Nat) : Int)) rfl rfl (by omega) (by omega) (by omega)) ?_
  simp only [pS, pN, pA, pC, pZ]
  refine do_ rfl (.int .i64 (((stepN p.key.length (writesN l m).length i) : Nat) : Int)) (ex_min (m := (((1 + (p.key.length % 3)) : Nat) : Int)) (n := ((((writesN l m).length - i) : Nat) : Int)) (r := (((stepN p.key.length (writesN l m).length i) : Nat) : Int)) rfl rfl (by unfold stepN; split <;> split <;> omega)) ?_
  simp only [pS, pN, pA, pC, pZ]
  refine do_ rfl (.int .i64 (((stepN p.key.length (writesN l m).length i) : Nat) : Int)) (ex_assign _) ?_
  simp only [pS, pN, pA, pC, pZ]
  refine wl_nil (hK29 _ _ ?_)
  refine wp_seq_k (fun K46 hK46 => ?_)
  obtain ⟨h1n, h2n, h3n⟩ := stepN_ok (kl := p.key.length) hc18
  generalize stepN p.key.length (writesN l m).length i = n at *
  have okk := (state_ok hh cs.length).mono (show i ≤ 60 by omega)
  have hcn := chunk_len (ws := (writesN l m)) (i := i) (n := n) (by omega)
  have hae := applyE_ok (l := stateC cs cs.length) (chunk_ok hwok (i := i) (n := n)) (by omega)
  cases hg : applyF (stateC cs cs.length) (((writesN l m).take (i + n)).drop i) with
  | none =>
   rw [hg] at hae
   refine region_wl ?_
   refine do_ rfl x (ex_move _) ?_
   simp only [pS, pN, pA, pC, pZ]
   refine do_ rfl (.slice a11 (writesN l m).length c12) (ex_move _) ?_
   simp only [pS, pN, pA, pC, pZ]
   refine do_ rfl (.int .i64 ((i : Nat) : Int)) (ex_move _) ?_
   simp only [pS, pN, pA, pC, pZ]
   refine do_ rfl (.int .i64 ((i : Nat) : Int)) (ex_move _) ?_
   simp only [pS, pN, pA, pC, pZ]
   refine do_ rfl (.int .i64 ((n : Nat) : Int)) (ex_move _) ?_
   simp only [pS, pN, pA, pC, pZ]
   refine do_ rfl (.int .i64 (((i + n) : Nat) : Int)) (ex_add (m := ((i : Nat) : Int)) (n := ((n : Nat) : Int)) (r := (((i + n) : Nat) : Int)) rfl rfl (by omega) (by omega) (by omega)) ?_
   simp only [pS, pN, pA, pC, pZ]
   have r47 : Wrs F18 (.slice (if c12 = i then a11 else a11.map (·.add (i * 4))) ((i + n) - i) (c12 - i)) (((writesN l m).take (i + n)).drop i) := Sl.cut2 (by decide) (R9.mono le25) (by omega) (by omega)
   refine do_ rfl (.slice (if c12 = i then a11 else a11.map (·.add (i * 4))) ((i + n) - i) (c12 - i)) (ex_slice (l := i) (h := (i + n)) (sz := 4) Tryd.underlying37 rfl (sizeof_36 _) (.inr ⟨_, rfl, rfl⟩) (.inr ⟨_, rfl, rfl⟩) (by omega) (by omega) (rfl)) ?_
   simp only [pS, pN, pA, pC, pZ]
   refine stGives S24 rfl (ex_fn (vs := #[x, (.slice (if c12 = i then a11 else a11.map (·.add (i * 4))) ((i + n) - i) (c12 - i))]) (map2 rfl rfl) rfl (ent_16 _ _)) (apply_is (S24).sat hx r47 okk (chunk_ok hwok) hae) ?_
   intro v53 w48 F50 S49 le51 R52
   obtain ⟨_, rfl, r56⟩ := R52
   obtain ⟨a54, c55, rfl, h57, h58⟩ := Sl.shape r56
   unfold maxLen at h58
   simp only [pS, pN, pA, pC, pZ]
   refine do_ rfl (.tuple #[(.slice a54 ([] : Forest).length c55), (.int .i64 11)]) (ex_move _) ?_
   simp only [pS, pN, pA, pC, pZ]
   refine do_ rfl (.slice a54 ([] : Forest).length c55) (ex_extract rfl rfl) ?_
   simp only [pS, pN, pA, pC, pZ]
   refine do_ rfl (.int .i64 11) (ex_extract rfl rfl) ?_
   simp only [pS, pN, pA, pC, pZ]
   refine do_ rfl (.slice a54 ([] : Forest).length c55) (ex_assign _) ?_
   simp only [pS, pN, pA, pC, pZ]
   refine do_ rfl (.int .i64 11) (ex_assign _) ?_
   simp only [pS, pN, pA, pC, pZ]
   refine wl_nil (hK46 _ _ ?_)
   refine wp_seq_k (fun K59 hK59 => ?_)
   refine wp_seq_k (fun K60 hK60 => region_wl ?_)
   refine do_ rfl (.int .i64 11) (ex_move _) ?_
   simp only [pS, pN, pA, pC, pZ]
   refine do_ rfl (.bool false) (ex_eql (b := false) rfl rfl (by decide)) ?_
   simp only [pS, pN, pA, pC, pZ]
   refine wl_nil (hK60 _ _ ?_)
   refine wp_cond_false rfl ?_
   refine wp_skip ?_
   refine hK59 _ _ ?_
   refine region_wl ?_
   refine do_ rfl (.int .i64 ((i : Nat) : Int)) (ex_move _) ?_
   simp only [pS, pN, pA, pC, pZ]
   refine do_ rfl (.int .i64 ((n : Nat) : Int)) (ex_move _) ?_
   simp only [pS, pN, pA, pC, pZ]
   refine do_ rfl (.int .i64 (((i + n) : Nat) : Int)) (ex_add (m := ((i : Nat) : Int)) (n := ((n : Nat) : Int)) (r := (((i + n) : Nat) : Int)) rfl rfl (by omega) (by omega) (by omega)) ?_
   simp only [pS, pN, pA, pC, pZ]
   refine do_ rfl (.int .i64 (((i + n) : Nat) : Int)) (ex_assign _) ?_
   simp only [pS, pN, pA, pC, pZ]
   refine wl_nil ?_
   exact hK26 _ _ _ (by omega) ⟨(i + n), v, x, cs, F50, _, rfl, rfl, rfl, S49, (le25.trans le51), (by omega), (hx.mono le51), (hh.grow (by omega)), (by omega)⟩
  | some g =>
   rw [hg] at hae
   have hsn := HistOk.snoc (n := i + n) hh (chunk_ok hwok) (by omega) (by omega) (by omega) (by omega) hg
   refine region_wl ?_
   refine do_ rfl x (ex_move _) ?_
   simp only [pS, pN, pA, pC, pZ]
   refine do_ rfl (.slice a11 (writesN l m).length c12) (ex_move _) ?_
   simp only [pS, pN, pA, pC, pZ]
   refine do_ rfl (.int .i64 ((i : Nat) : Int)) (ex_move _) ?_
   simp only [pS, pN, pA, pC, pZ]
   refine do_ rfl (.int .i64 ((i : Nat) : Int)) (ex_move _) ?_
   simp only [pS, pN, pA, pC, pZ]
   refine do_ rfl (.int .i64 ((n : Nat) : Int)) (ex_move _) ?_
   simp only [pS, pN, pA, pC, pZ]
   refine do_ rfl (.int .i64 (((i + n) : Nat) : Int)) (ex_add (m := ((i : Nat) : Int)) (n := ((n : Nat) : Int)) (r := (((i + n) : Nat) : Int)) rfl rfl (by omega) (by omega) (by omega)) ?_
   simp only [pS, pN, pA, pC, pZ]
   have r61 : Wrs F18 (.slice (if c12 = i then a11 else a11.map (·.add (i * 4))) ((i + n) - i) (c12 - i)) (((writesN l m).take (i + n)).drop i) := Sl.cut2 (by decide) (R9.mono le25) (by omega) (by omega)
   refine do_ rfl (.slice (if c12 = i then a11 else a11.map (·.add (i * 4))) ((i + n) - i) (c12 - i)) (ex_slice (l := i) (h := (i + n)) (sz := 4) Tryd.underlying37 rfl (sizeof_36 _) (.inr ⟨_, rfl, rfl⟩) (.inr ⟨_, rfl, rfl⟩) (by omega) (by omega) (rfl)) ?_
   simp only [pS, pN, pA, pC, pZ]
   refine stGives S24 rfl (ex_fn (vs := #[x, (.slice (if c12 = i then a11 else a11.map (·.add (i * 4))) ((i + n) - i) (c12 - i))]) (map2 rfl rfl) rfl (ent_16 _ _)) (apply_is (S24).sat hx r61 okk (chunk_ok hwok) hae) ?_
   intro v67 w62 F64 S63 le65 R66
   obtain ⟨_, rfl, r70⟩ := R66
   obtain ⟨a68, c69, rfl, h71, h72⟩ := Sl.shape r70
   unfold maxLen at h72
   have h71 : g.length ≤ c69 := h71
   have r70 : Tns _ (.slice a68 g.length c69) g := r70
   simp only [pS, pN, pA, pC, pZ]
   refine do_ rfl (.tuple #[(.slice a68 g.length c69), (.int .i64 0)]) (ex_move _) ?_
   simp only [pS, pN, pA, pC, pZ]
   refine do_ rfl (.slice a68 g.length c69) (ex_extract rfl rfl) ?_
   simp only [pS, pN, pA, pC, pZ]
   refine do_ rfl (.int .i64 0) (ex_extract rfl rfl) ?_
   simp only [pS, pN, pA, pC, pZ]
   refine do_ rfl (.slice a68 g.length c69) (ex_assign _) ?_
   simp only [pS, pN, pA, pC, pZ]
   refine do_ rfl (.int .i64 0) (ex_assign _) ?_
   simp only [pS, pN, pA, pC, pZ]
   refine wl_nil (hK46 _ _ ?_)
   refine wp_seq_k (fun K73 hK73 => ?_)
   refine wp_seq_k (fun K74 hK74 => region_wl ?_)
   refine do_ rfl (.int .i64 0) (ex_move _) ?_
   simp only [pS, pN, pA, pC, pZ]
   refine do_ rfl (.bool true) (ex_eql (b := true) rfl rfl (by decide)) ?_
   simp only [pS, pN, pA, pC, pZ]
   refine wl_nil (hK74 _ _ ?_)
   refine wp_cond_true rfl ?_
   refine wp_seq_k (fun K75 hK75 => region_wl ?_)
   refine do_ rfl (.slice a68 g.length c69) (ex_move _) ?_
   simp only [pS, pN, pA, pC, pZ]
   refine do_ rfl (.slice a68 g.length c69) (ex_assign _) ?_
   simp only [pS, pN, pA, pC, pZ]
   refine wl_nil (hK75 _ _ ?_)
   obtain ⟨a76, cap77, rfl, h78, h79⟩ := (S63.own (i := 0) rfl).shape
   unfold maxLen at h79
   refine region_wl ?_
   refine do_ rfl (.slice a76 cs.length cap77) (ex_move _) ?_
   simp only [pS, pN, pA, pC, pZ]
   refine do_ rfl (.slice a76 cs.length cap77) (ex_move _) ?_
   simp only [pS, pN, pA, pC, pZ]
   refine do_ rfl (.int .i64 ((cs.length : Nat) : Int)) (ex_len Tryd.underlying60 rfl) ?_
   simp only [pS, pN, pA, pC, pZ]
   refine do_ rfl (.int .i64 (((cs.length + 1) : Nat) : Int)) (ex_add (m := ((cs.length : Nat) : Int)) (n := (1 : Int)) (r := (((cs.length + 1) : Nat) : Int)) rfl rfl (by omega) (by omega) (by omega)) ?_
   simp only [pS, pN, pA, pC, pZ]
   refine do_ rfl (.slice a11 (writesN l m).length c12) (ex_move _) ?_
   simp only [pS, pN, pA, pC, pZ]
   refine do_ rfl (.int .i64 ((i : Nat) : Int)) (ex_move _) ?_
   simp only [pS, pN, pA, pC, pZ]
   refine do_ rfl (.int .i64 ((i : Nat) : Int)) (ex_move _) ?_
   simp only [pS, pN, pA, pC, pZ]
   refine do_ rfl (.int .i64 ((n : Nat) : Int)) (ex_move _) ?_
   simp only [pS, pN, pA, pC, pZ]
   refine do_ rfl (.int .i64 (((i + n) : Nat) : Int)) (ex_add (m := ((i : Nat) : Int)) (n := ((n : Nat) : Int)) (r := (((i + n) : Nat) : Int)) rfl rfl (by omega) (by omega) (by omega)) ?_
   simp only [pS, pN, pA, pC, pZ]
   refine do_ rfl (.int .i64 ((i : Nat) : Int)) (ex_move _) ?_
   simp only [pS, pN, pA, pC, pZ]
   refine do_ rfl (.int .i64 ((n : Nat) : Int)) (ex_move _) ?_
   simp only [pS, pN, pA, pC, pZ]
   refine do_ rfl (.int .i64 (((i + n) : Nat) : Int)) (ex_add (m := ((i : Nat) : Int)) (n := ((n : Nat) : Int)) (r := (((i + n) : Nat) : Int)) rfl rfl (by omega) (by omega) (by omega)) ?_
   simp only [pS, pN, pA, pC, pZ]
   have r80 : Wrs F64 (.slice (if (i + n) = i then a11 else a11.map (·.add (i * 4))) ((i + n) - i) ((i + n) - i)) (((writesN l m).take (i + n)).drop i) := Sl.cut3 (by decide) (R9.mono (le25.trans le65)) (by omega) (by omega) (by omega)
   have r80 : Wrs F64 (.slice (if (i + n) = i then a11 else a11.map (·.add (i * 4))) (((writesN l m).take (i + n)).drop i).length ((i + n) - i)) (((writesN l m).take (i + n)).drop i) := by rw [chunk_len (by omega)]; rw [show (i + n) - i = n from by omega] at *; exact r80
   refine do_ rfl (.slice (if (i + n) = i then a11 else a11.map (·.add (i * 4))) (((writesN l m).take (i + n)).drop i).length ((i + n) - i)) (ex_slice3 (l := i) (h := (i + n)) (m := (i + n)) (sz := 4) Tryd.underlying37 rfl (sizeof_36 _) rfl rfl rfl (by omega) (by omega) (by omega) (by rw [chunk_len (by omega)]; rw [show (i + n) - i = n from by omega])) ?_
   simp only [pS, pN, pA, pC, pZ]
   refine do_ rfl (.agg #[(.int .i64 (((cs.length + 1) : Nat) : Int)), (.slice (if (i + n) = i then a11 else a11.map (·.add (i * 4))) (((writesN l m).take (i + n)).drop i).length ((i + n) - i))]) (ex_build (ps := #[(0, (.int .i64 (((cs.length + 1) : Nat) : Int))), (1, (.slice (if (i + n) = i then a11 else a11.map (·.add (i * 4))) (((writesN l m).take (i + n)).drop i).length ((i + n) - i)))]) (bmap2 rfl rfl) (by kernel_rfl)) ?_
   simp only [pS, pN, pA, pC, pZ]
   refine stNew S63 (v := fun n => .slice (some ⟨n, 0, none⟩) 1 1) rfl (ex_lit (ps := #[(0, (.agg #[(.int .i64 (((cs.length + 1) : Nat) : Int)), (.slice (if (i + n) = i then a11 else a11.map (·.add (i * 4))) (((writesN l m).take (i + n)).drop i).length ((i + n) - i))]))]) (cells := #[(.int .i64 (((cs.length + 1) : Nat) : Int)), (.slice (if (i + n) = i then a11 else a11.map (·.add (i * 4))) (((writesN l m).take (i + n)).drop i).length ((i + n) - i))]) (E := 72) (bmap1 rfl) (fun w => by kernel_rfl)) (fun n81 w82 S83 => ?_)
   simp only [pS, pN, pA, pC, pZ]
   have S83 : St w F w82 F64 [⟨n81, [(.int .i64 (((cs.length + 1) : Nat) : Int)), (.slice (if (i + n) = i then a11 else a11.map (·.add (i * 4))) (((writesN l m).take (i + n)).drop i).length ((i + n) - i))], 72⟩] [ownP 2 CmC CmC.mono 72 w.heap.size (.slice a76 cs.length cap77) cs] := S83
   refine stPush (i := 0) (r := 0) (p := (⟨cs.length + 1, (((writesN l m).take (i + n)).drop i)⟩ : Cm)) (cs := [(.int .i64 (((cs.length + 1) : Nat) : Int)), (.slice (if (i + n) = i then a11 else a11.map (·.add (i * 4))) (((writesN l m).take (i + n)).drop i).length ((i + n) - i))]) S83 rfl i72 (.agg #[(.int .i64 0), (.slice none 0 0)]) 32 Tryd.underlying60 hi72 hz72 hs72 hb72 rfl (by decide) rfl rfl rfl rfl rfl (CmC.oneCell (p := (⟨cs.length + 1, (((writesN l m).take (i + n)).drop i)⟩ : Cm)) ⟨_, _, rfl, rfl, r80⟩) (⟨_, _, rfl, rfl, r80⟩) (Nat.le_refl _) S83.gr.below.size (by unfold maxLen; omega) (by omega) ?_
   intro v84 w85 S86 hn87
   simp only [pS, pN, pA, pC, pZ]
   have S86 := St.drop S86 (L' := []) (.cons _ (List.Sublist.refl _))
   have S86 : St w F w85 F64 [] [ownP 2 CmC CmC.mono 72 w.heap.size v84 (cs ++ [(⟨cs.length + 1, (((writesN l m).take (i + n)).drop i)⟩ : Cm)])] := S86
   refine do_ rfl v84 (ex_assign _) ?_
   simp only [pS, pN, pA, pC, pZ]
   refine wl_nil (hK73 _ _ ?_)
   refine region_wl ?_
   refine do_ rfl (.int .i64 ((i : Nat) : Int)) (ex_move _) ?_
   simp only [pS, pN, pA, pC, pZ]
   refine do_ rfl (.int .i64 ((n : Nat) : Int)) (ex_move _) ?_
   simp only [pS, pN, pA, pC, pZ]
   refine do_ rfl (.int .i64 (((i + n) : Nat) : Int)) (ex_add (m := ((i : Nat) : Int)) (n := ((n : Nat) : Int)) (r := (((i + n) : Nat) : Int)) rfl rfl (by omega) (by omega) (by omega)) ?_
   simp only [pS, pN, pA, pC, pZ]
   refine do_ rfl (.int .i64 (((i + n) : Nat) : Int)) (ex_assign _) ?_
   simp only [pS, pN, pA, pC, pZ]
   refine wl_nil ?_
   exact hK26 _ _ _ (by omega) ⟨(i + n), v84, (.slice a68 g.length c69), (cs ++ [(⟨cs.length + 1, (((writesN l m).take (i + n)).drop i)⟩ : Cm)]), F64, _, rfl, rfl, rfl, S86, (le25.trans le65), (by omega), (by rw [show (cs ++ [(⟨cs.length + 1, (((writesN l m).take (i + n)).drop i)⟩ : Cm)]).length = cs.length + 1 from by simp, hsn.2]; exact r70), hsn.1, (by simp; omega)⟩
 ·refine do_ rfl (.bool false) (ex_lss (m := ((i : Nat) : Int)) (n := (((writesN l m).length : Nat) : Int)) (b := false) rfl rfl (decide_eq_false (by omega))) ?_
  simp only [pS, pN, pA, pC, pZ]
  refine wl_nil (hK28 _ _ ?_)
  refine wp_cond_false rfl ?_
  refine wp_exit ?_
  refine hK15 _ _ ?_
  refine wp_seq_k (fun K88 hK88 => region_wl ?_)
  refine do_ rfl v (ex_move _) ?_
  simp only [pS, pN, pA, pC, pZ]
  refine do_ rfl v (ex_assign _) ?_
  simp only [pS, pN, pA, pC, pZ]
  refine wl_nil (hK88 _ _ ?_)
  refine wp_ret ?_
  (try simp only [Exit.then, Exit.inBlock, ↓reduceIte, Nat.reduceEqDiff])
  refine bodyPost_ret (v := v) ?_ rfl ?_
  ·exact res_t rfl rfl
  ·obtain ⟨F89, S90, le91, hv92⟩ := St.freeze S24 (i := 0) rfl (Nat.le_refl _)
   have S90 : St w F w23 F89 [] [] := S90
   have hv92 : Cms _ v cs := hv92
   exact ⟨_, _, rfl, S90.gr, cs, hv92, hh.grow (by omega), by omega⟩
end Go.Proofs.YtikklmjengkliaaDoor
namespace Go.Proofs.YtikklmjengkliaaDoor
open Go.RowKit
set_option linter.unusedVariables false
structure HL (P : Program) (ops : Array Oper) (Q : Exit → Act → World → Prop) (F : Fz) (fuel : Nat) (listed : Array Bool) (a : Act) (w : World) : Prop where
  out : Go.wpAnyH P .any ops Q (fun w => Sat w F) fuel listed a w
section
variable {P : Program} {ops : Array Oper} {Q : Exit → Act → World → Prop} {F : Fz} {fuel : Nat} {listed : Array Bool} {a : Act} {w : World} {o : Oper}
theorem region_hl {id : Nat} {l : List Oper} {w0 : World} {F0 : Fz} {L : List Blk} {M : List RowP} (S : St w0 F0 w F L M) (hm : P.follows .mixedOrders = true) (h : ∀ w', St w0 F0 w' F L M → HL P l.toArray Q F l.length (Array.replicate l.length false) a w') : (Code.region id l.toArray true).wp P Q a w := by
  have := (h { w with drawn := w.drawn + 1 } (S.tells (Below.refl w.heap.size w).drew)).out
  refine wp_region_held (S := fun w => Sat w F) hm ?_
  simpa using this
def canTake (ops : Array Oper) (listed : Array Bool) (i : Nat) : Bool := Region.noSelect ops && Region.free .any ops listed i && (Region.ready .any ops listed).contains i
theorem hl_take {l : List Oper} (i : Nat) (hi : l[i]? = some o) (hc : canTake l.toArray listed i = true) {v : Value} (hQ : ∀ c a w, Q (.panic c) (a.put o.dst v) w → Q (.panic c) a w) (hS : Sat w F) (hw : Region.wanted o (yielded l.toArray a.tmps) = true)
    (hr : ∀ w1, Sat w1 F → (execOp a.eval o).run P w1 = .ok (.value v) w1) (h : HL P l.toArray Q F fuel (listed.setIfInBounds i true) (a.put o.dst v) w) : HL P l.toArray Q F (fuel + 1) listed a w := by
  simp only [canTake, Bool.and_eq_true] at hc
  exact ⟨Go.wpAnyH_take (by simpa using hi) hc.1.1 hc.1.2 hc.2 hQ (.inl ⟨hw, hr⟩) hS h.out⟩
theorem hl_skip {l : List Oper} (i : Nat) (hi : l[i]? = some o) (hc : canTake l.toArray listed i = true) (hQ : ∀ c a w, Q (.panic c) (a.put o.dst undef) w → Q (.panic c) a w) (hS : Sat w F) (hw : Region.wanted o (yielded l.toArray a.tmps) = false)
    (h : HL P l.toArray Q F fuel (listed.setIfInBounds i true) (a.put o.dst undef) w) : HL P l.toArray Q F (fuel + 1) listed a w := by
  simp only [canTake, Bool.and_eq_true] at hc
  exact ⟨Go.wpAnyH_take (by simpa using hi) hc.1.1 hc.1.2 hc.2 hQ (.inr ⟨hw, rfl⟩) hS h.out⟩
theorem Oper.wp_exit {K K' : Act → World → Prop} (hh : o.wp P a w K (Exit.then K' Q)) : o.wp P a w K Q := by
  unfold Oper.wp at *
  generalize (execOp a.eval o).run P w = r at *
  cases r with
  | ok n w' =>
    cases n <;> simp only [Oper.upon] at hh ⊢ <;> try exact hh
  | halt x w' => cases x <;> exact hh
/-- The only one that may come up. -/
theorem hl_next {l : List Oper} (i : Nat) (hr : Region.ready .any l.toArray listed = [i]) (hi : l[i]? = some o) (h : WL P l.toArray (Exit.then (fun a' w' => Sat w' F ∧ Go.wpAnyH P .any l.toArray Q (fun w => Sat w F) fuel (listed.setIfInBounds i true) a' w') Q) [o] a w) : HL P l.toArray Q F (fuel + 1) listed a w := by
  refine ⟨Go.wpAnyH_all hr (by simp) fun j hj => ?_⟩
  have hji : j = i := by simpa using hj
  subst hji
  have h1 := h.out
  unfold wpList at h1
  unfold wpOp
  have hi' : l.toArray[j]? = some o := by simpa using hi
  simp only [hi']
  split
  · rename_i hw
    rw [if_pos hw] at h1
    rcases h1 with h1 | h1
    · left
      refine Oper.wp_mono (fun a' w' hk => ?_) (Oper.wp_exit h1)
      exact hk
    · exact .inr h1
  · rename_i hw
    rw [if_neg hw] at h1
    exact h1
theorem hl_back (hS : Sat w F) (h : HL P ops Q F fuel listed a w) : Exit.then (fun a' w' => Sat w' F ∧ Go.wpAnyH P .any ops Q (fun w => Sat w F) fuel listed a' w') Q .normal a w := ⟨hS, h.out⟩
theorem hl_done (hr : Region.ready .any ops listed = []) (h : Q .normal a w) : HL P ops Q F fuel listed a w := ⟨Go.wpAnyH_done hr h _⟩
end
end Go.Proofs.YtikklmjengkliaaDoor
namespace Go.Proofs.YtikklmjengkliaaDoor
open Go.ChangeShapes Go.WideShapes Go.ChangeAt Go.RowKit Go.Deep
set_option maxRecDepth 100000
theorem laidVars_at {P : Program} {W : World} : ∀ {l : List (String × DataW Unit)} {ps : List MemPlace}, DataW.LaidVars P W l ps → ∀ (i : Nat) (n : String) (d : DataW Unit), l[i]? = some (n, d) →
    ∃ g t cs fuel p, P.globalNamed n = some g ∧ (P.globals[g]?).map (·.type) = some t ∧ W.var? P n = some cs ∧ DataW.trod (fun _ => ()) P W 0 (fun _ => true) false fuel t cs.toList = some (d, p)
  | [], _, _, i, n, d, hi => by simp at hi
  | (n', d') :: r, ps, h, i, n, d, hi => by
    obtain ⟨g, t, cs, fuel, p, q, h1, h2, h3, h4, h5, h6⟩ := h
    cases i with
    | zero =>
      simp only [List.getElem?_cons_zero, Option.some.injEq, Prod.mk.injEq] at hi
      obtain ⟨rfl, rfl⟩ := hi
      exact ⟨g, t, cs, fuel, p, h1, h2, h3, h4⟩
    | succ i => exact laidVars_at h5 i n d (by simpa using hi)
theorem tabIs_at {P : Program} {W : World} {l : List (String × DataW Unit)} (h : laidMet P l W) (i : Nat) (name : String) (k : IntKind) (zs : List Int) {g : Nat} {t e : TypeId} {n : Nat}
    (hi : l[i]? = some (name, Lib.tabData k zs))
    (hg : P.globalNamed name = some g) (hty : (P.globals[g]?).map (·.type) = some t) (ht : P.underlying t = some (.array n e)) (he : P.underlying e = some (.int k)) (hce : P.cellsOf e = 1) (hct : P.cellsOf t = n) : Lib.TabIs P W name k zs := by
  obtain ⟨ps, hv, _, _⟩ := h
  obtain ⟨g', t', cs, fuel, p, hg', ht', hvar, hd⟩ := laidVars_at hv i name _ hi
  obtain rfl := Option.some.inj (hg.symm.trans hg')
  obtain rfl := Option.some.inj (hty.symm.trans ht')
  unfold Lib.TabIs
  rw [hvar, ← Lib.cells_of_tab ht he hce hct hd]
theorem array5 {α : Type} {cs : Array α} (h : cs.size = 5) : ∃ c0 c1 c2 c3 c4, cs = #[c0, c1, c2, c3, c4] := by
  obtain ⟨l⟩ := cs
  match l, h with
  | [c0, c1, c2, c3, c4], _ => exact ⟨c0, c1, c2, c3, c4, rfl⟩
/-- A struct of five one-cell fields, by value, opened. -/
theorem open_agg5 {H : Type} {enc : TypeId × Value → H} {P : Program} {w : World} {base : Nat} {spare : Nat → Bool} {held : Bool} {r : Reach} {b0 : Nat} {t : TypeId} {f0 f1 f2 f3 f4 : Field} {v : Value} {d : DataW H} {p : List MemPlace}
    (hs : P.underlying t = some (.struct #[f0, f1, f2, f3, f4])) (hone : oneCellFields P #[f0, f1, f2, f3, f4] = true) (hC : P.cellsOf t = 5)
    (hv : Value.okWide P w r b0 t v) (h : DataW.Trod enc P w base spare held t v d p) :
    ∃ (v0 v1 v2 v3 v4 : Value) (y0 y1 y2 y3 y4 : DataW H × List MemPlace) (n : Nat), v = .agg #[v0, v1, v2, v3, v4] ∧
      DataW.trod enc P w base spare held n f0.type [v0] = some y0 ∧ DataW.trod enc P w base spare held n f1.type [v1] = some y1 ∧ DataW.trod enc P w base spare held n f2.type [v2] = some y2 ∧
      DataW.trod enc P w base spare held n f3.type [v3] = some y3 ∧ DataW.trod enc P w base spare held n f4.type [v4] = some y4 := by
  obtain ⟨cs, rfl, hsz⟩ := okWide_struct hs hv
  obtain ⟨c0, c1, c2, c3, c4, rfl⟩ := array5 (hsz.trans hC)
  obtain ⟨fuel, hf⟩ := h
  obtain ⟨xs, n, _, _, _, hlen, hi⟩ := DataW.trod_struct hs hf
  have H1 : ∀ (i : Nat) f, #[f0, f1, f2, f3, f4][i]? = some f → f.offset = i ∧ P.cellsOf f.type = 1 := fun i f hf => by
    obtain ⟨o, k⟩ := hone_of hone i f hf
    exact ⟨o, k⟩
  match xs, hlen with
  | [y0, y1, y2, y3, y4], _ =>
    refine ⟨c0, c1, c2, c3, c4, y0, y1, y2, y3, y4, n, rfl, ?_, ?_, ?_, ?_, ?_⟩
    · have := hi 0 f0 rfl; rw [(H1 0 f0 rfl).1, (H1 0 f0 rfl).2] at this; simpa [Value.cells] using this
    · have := hi 1 f1 rfl; rw [(H1 1 f1 rfl).1, (H1 1 f1 rfl).2] at this; simpa [Value.cells] using this
    · have := hi 2 f2 rfl; rw [(H1 2 f2 rfl).1, (H1 2 f2 rfl).2] at this; simpa [Value.cells] using this
    · have := hi 3 f3 rfl; rw [(H1 3 f3 rfl).1, (H1 3 f3 rfl).2] at this; simpa [Value.cells] using this
    · have := hi 4 f4 rfl; rw [(H1 4 f4 rfl).1, (H1 4 f4 rfl).2] at this; simpa [Value.cells] using this
end Go.Proofs.YtikklmjengkliaaDoor
namespace Go.Proofs.YtikklmjengkliaaDoor
open Go.RowKit
set_option maxRecDepth 100000
set_option linter.unusedVariables false
set_option linter.unusedSimpArgs false
def ByC (F : Fz) (cs : List Value) (b : UInt8) : Prop := cs = [bv b]
theorem ByC.mono (F F' : Fz) (x : List Value) (p : UInt8) (hl : Le F F') (h : ByC F x p) : ByC F' x p := h
theorem bv_one (b : UInt8) : ∀ u ∈ [bv b], u.oneCell' = true := by intro u hu; rw [List.mem_singleton.1 hu]; rfl
theorem ByC.one (F : Fz) (cs : List Value) (p : UInt8) (h : ByC F cs p) : ∀ u ∈ cs, u.oneCell' = true := by rw [h]; exact bv_one p
theorem bytes_flat : ∀ l : By, ((l.map fun b => [bv b]).flatten) = l.map bv
  | [] => rfl
  | b :: l => by simp [bytes_flat l]
theorem allR_bytes (F : Fz) : ∀ l : By, AllR (ByC F) (l.map fun b => [bv b]) l
  | [] => trivial
  | _ :: l => ⟨rfl, allR_bytes F l⟩
theorem bytes_of : ∀ {xs : List (List Value)} {l : By} {F : Fz}, AllR (ByC F) xs l → xs.flatten = l.map bv
  | [], [], _, _ => rfl
  | x :: xs, b :: l, F, h => by rw [List.flatten_cons, h.1, bytes_of h.2]; rfl
theorem Bs.sl {F : Fz} {v : Value} {l : By} (h : Bs F v l) : Sl 1 ByC F v l := ⟨l.map fun b => [bv b], by rw [bytes_flat]; exact h, allR_bytes F l, by simp⟩
theorem bs_of_sl {F : Fz} {v : Value} {l : By} (h : Sl 1 ByC F v l) : Bs F v l := by
  obtain ⟨xs, h1, h2, _⟩ := h
  rw [bytes_of h2] at h1
  exact h1
theorem conv_b8 (z : Nat) (w : World) : (convert 3 5 (.int .i64 (z : Nat))).run Tryd.prog w = .ok (bv (b8 z)) w := by
  have : (convert 3 5 (.int .i64 (z : Nat))).run Tryd.prog w = .ok (.int .u8 (IntKind.u8.wrap (z : Int))) w := by kernel_rfl
  rw [this]
  have e : IntKind.u8.wrap (z : Int) = ((b8 z).toNat : Int) := by
    rw [show IntKind.u8.wrap (z : Int) = (z : Int) % 256 from rfl]
    simp [b8]
  rw [e]; rfl
theorem conv_int (b : UInt8) (w : World) : (convert 5 3 (bv b)).run Tryd.prog w = .ok (.int .i64 ((b.toNat : Nat) : Int)) w := by
  have : (convert 5 3 (bv b)).run Tryd.prog w = .ok (.int .i64 (IntKind.i64.wrap (b.toNat : Int))) w := by kernel_rfl
  rw [this, wrap64_in (by omega) (by have := UInt8.toNat_lt b; omega)]
theorem ex_shrN {P : Program} {ρ : Operand → Value} {w : World} {d : Option Tmp} {t X Y : TypeId} {x y : Operand} {pos : String} {after : Array Edge} {guard : Option (Nat × Bool)} {m n : Nat} (hx : ρ x = .int .i64 (m : Int)) (hy : ρ y = .int .u64 (n : Int)) (hn : n ≤ 64) : (execOp ρ ⟨d, .binOp .shr X x y Y, t, pos, after, guard⟩).run P w = .ok (.value (.int .i64 ((m / 2 ^ n : Nat) : Int))) w := by
  have e : (eqGuard .shr X x y (.int .i64 (m : Int)) (.int .u64 (n : Int))).run P w = .ok () w := rfl
  have h : (binOp .shr X (.int .i64 (m : Int)) (.int .u64 (n : Int))).run P w = .ok (.int .i64 ((m / 2 ^ n : Nat) : Int)) w := by
    show (Op.shift .shr .i64 (m : Int) .u64 (n : Int)).run P w = _
    unfold Op.shift
    rw [if_neg (by omega)]
    show Result.ok (Value.int .i64 (Int.fdiv (m : Int) (2 ^ (min (n : Int).toNat 64)))) w = _
    rw [Int.toNat_natCast, Nat.min_eq_left hn, Int.fdiv_eq_ediv_of_nonneg _ (show (0 : Int) ≤ 2 ^ n from Int.le_of_lt (Int.pow_pos (by decide)))]
    simp
  simp only [execOp, hx, hy, Sem.run_bind, e, Result.andThen_ok, h, Sem.run_pure]
theorem Bs.get {F : Fz} {a : Option Addr} {n c : Nat} {l : By} (h : Bs F (.slice a n c) l) {i : Nat} {b : UInt8} (hb : l[i]? = some b) : ∃ g o, a = some ⟨g, o, none⟩ ∧ cellF F g (o + i * 1) = some (bv b) := by
  obtain ⟨a', c', e, _, _, _, h5⟩ := h
  injection e with e1 _ _
  subst e1
  rcases h5 with h5 | ⟨g, o, e, h6⟩
  · rw [List.map_eq_nil_iff] at h5
    subst h5; cases hb
  · exact ⟨g, o, e, by rw [Nat.mul_one]; exact h6 i (bv b) (by rw [List.getElem?_map, hb]; rfl)⟩
theorem St.front {w0 w : World} {F0 F : Fz} {L : List Blk} {M : List RowP} (S : St w0 F0 w F L M) {i : Nat} {b : Blk} (h : L[i]? = some b) : St w0 F0 w F (b :: L.eraseIdx i) M := by
  obtain ⟨hi, rfl⟩ := List.getElem?_eq_some_iff.1 h
  have hp : (L[i] :: L.eraseIdx i).Perm L := by
    have h1 : L.take i ++ L[i] :: L.drop (i + 1) = L := by rw [← List.drop_eq_getElem_cons hi, List.take_append_drop]
    rw [List.eraseIdx_eq_take_drop_succ]
    exact List.perm_middle.symm.trans (List.Perm.of_eq h1)
  exact ⟨S.gr, fun x hx => S.blk x (hp.mem_iff.1 hx), S.row, (hp.pairwise_iff (fun h => Ne.symm h)).2 S.bb, fun r hr x hx => S.rb r hr x (hp.mem_iff.1 hx), S.rr⟩
abbrev Bys (F : Fz) (v : Value) (l : By) : Prop := Sl 1 ByC F v l
end Go.Proofs.YtikklmjengkliaaDoor
namespace Go.Proofs.YtikklmjengkliaaDoor
open Go.RowKit
set_option maxRecDepth 100000
set_option linter.unusedVariables false
/-- A lane as the number that a cell holds. -/
def lane (a : BitVec 64) : Int := (a.toNat : Int)
theorem lane_bd (a : BitVec 64) : 0 ≤ lane a ∧ lane a < 18446744073709551616 := by
  have := a.isLt
  unfold lane
  omega
theorem lane_ofInt (a : BitVec 64) : BitVec.ofInt IntKind.u64.bits (lane a) = a := by
  show BitVec.ofInt 64 (a.toNat : Int) = a
  simp
theorem lane_wrap (a : BitVec 64) : IntKind.u64.wrap ((BitVec.toNat a : Nat) : Int) = lane a := by
  have := a.isLt
  unfold lane IntKind.wrap
  simp only [IntKind.signed, Bool.false_and, Bool.false_eq_true, if_false, IntKind.bits]
  omega
theorem lane_xor (a b : BitVec 64) : bits .xor .u64 (lane a) (lane b) = lane (a ^^^ b) := by
  unfold bits
  simp only [lane_ofInt]
  exact lane_wrap (a ^^^ b)
theorem lane_or (a b : BitVec 64) : bits .or .u64 (lane a) (lane b) = lane (a ||| b) := by
  unfold bits
  simp only [lane_ofInt]
  exact lane_wrap (a ||| b)
theorem lane_and (a b : BitVec 64) : bits .and .u64 (lane a) (lane b) = lane (a &&& b) := by
  unfold bits
  simp only [lane_ofInt]
  exact lane_wrap (a &&& b)
theorem wrap_u64 (z : Int) : IntKind.u64.wrap z = z % 18446744073709551616 := by
  unfold IntKind.wrap
  simp only [IntKind.signed, Bool.false_and, Bool.false_eq_true, if_false]
  rfl
theorem lane_shl (a : BitVec 64) (n : Nat) : IntKind.u64.wrap (lane a * 2 ^ n) = lane (a <<< n) := by
  rw [wrap_u64]
  unfold lane
  rw [BitVec.toNat_shiftLeft, Nat.shiftLeft_eq, Int.natCast_emod, Int.natCast_mul, Int.natCast_pow]
  rfl
theorem lane_shr (a : BitVec 64) (n : Nat) : lane a / 2 ^ n = lane (a >>> n) := by
  unfold lane
  simp only [BitVec.toNat_ushiftRight, Nat.shiftRight_eq_div_pow]
  push_cast
  rfl
set_option maxHeartbeats 1000000 in
theorem turn_spec (w : World) (x : BitVec 64) (n : Nat) (h1 : 1 ≤ n) (h2 : n ≤ 63) :
    Calls Tryd.prog 106 #[.int .u64 (lane x), .int .i64 n] w (Tells w (.int .u64 (lane (turnL x n)))) := by
  go_enter Tryd.func106, Tryd.ntmps106
  go_wp2_with fail
  go_quiet (fail)
  go_wp2_with fail
  go_ret
  rw [lane_shl, lane_shr, lane_or]
  exact ⟨rfl, ⟨rfl, rfl, rfl, Nat.le_refl _, fun _ _ => rfl⟩⟩
end Go.Proofs.YtikklmjengkliaaDoor
namespace Go.Proofs.YtikklmjengkliaaDoor
open Go.RowKit
set_option maxRecDepth 100000
set_option linter.unusedVariables false
set_option linter.unusedSimpArgs false
theorem nagg_145 (w : World) : (isAgg 145).run Tryd.prog w = .ok false w := by kernel_rfl
theorem size_145 : (Tryd.prog.info? 145).map (·.size) = some 1 := by kernel_rfl
theorem sizeof_145 (w : World) : (sizeOf 145).run Tryd.prog w = .ok 1 w := by kernel_rfl
theorem size_162 : (Tryd.prog.info? 162).map (·.size) = some 5 := by kernel_rfl
theorem zero_162 (w : World) : (zeroValue 162).run Tryd.prog w = .ok (.agg #[.int .u64 0, .int .u64 0, .int .u64 0, .int .u64 0, .int .u64 0]) w := by kernel_rfl
abbrev laneV (a : BitVec 64) : Value := .int .u64 (lane a)
theorem at0_mapL (n : Nat) (f : Nat → BitVec 64) (i : Nat) (h : i < n) : at0 (mapL n f) i = f i := by simp [at0, mapL, List.getD, h]
theorem mapL_ext {n : Nat} {f g : Nat → BitVec 64} (h : ∀ i, i < n → f i = g i) : mapL n f = mapL n g := List.map_congr_left (fun i hi => h i (List.mem_range.1 hi))
theorem mapL_at0 (S : List (BitVec 64)) : mapL S.length (at0 S) = S := by
  apply List.ext_getElem (by simp [mapL])
  intro i h1 h2
  simp [mapL, at0, List.getD, h2]
theorem mapL_set (n : Nat) (f : Nat → BitVec 64) (k : Nat) (v : BitVec 64) : (mapL n f).set k v = mapL n fun i => if i = k then v else f i := by
  apply List.ext_getElem (by simp [mapL])
  intro i h1 h2
  simp only [mapL, List.getElem_set, List.getElem_map, List.getElem_range]
  by_cases h : k = i
  · subst h; simp
  · rw [if_neg h, if_neg (fun e => h e.symm)]
theorem goesN_bd : ∀ i, i < 24 → goesN i < 25 := by decide
theorem turnsN_bd : ∀ i, i < 24 → 1 ≤ turnsN i ∧ turnsN i ≤ 63 := by decide
def Tabs (w : World) : Prop := (∀ i, i < 24 → w.cell? ⟨1, i, none⟩ = some (.int .i64 (goesN i))) ∧ (∀ i, i < 24 → w.cell? ⟨2, i, none⟩ = some (.int .i64 (turnsN i))) ∧ ∀ i, i < 24 → w.cell? ⟨3, i, none⟩ = some (.int .u64 (lane (roundB i)))
theorem Tabs.lt {w : World} (h : Tabs w) : 1 < w.heap.size ∧ 2 < w.heap.size ∧ 3 < w.heap.size :=
  ⟨World.block_lt_of_cell? w ⟨1, 0, none⟩ (h.1 0 (by decide)), World.block_lt_of_cell? w ⟨2, 0, none⟩ (h.2.1 0 (by decide)), World.block_lt_of_cell? w ⟨3, 0, none⟩ (h.2.2 0 (by decide))⟩
theorem Tabs.below {w w' : World} {N : Nat} (h : Tabs w) (hb : Below N w w') (h1 : 1 < N) (h2 : 2 < N) (h3 : 3 < N) : Tabs w' :=
  ⟨fun i hi => by rw [hb.cell (p := ⟨1, i, none⟩) h1]; exact h.1 i hi, fun i hi => by rw [hb.cell (p := ⟨2, i, none⟩) h2]; exact h.2.1 i hi, fun i hi => by rw [hb.cell (p := ⟨3, i, none⟩) h3]; exact h.2.2 i hi⟩
def goesV : Array Value := (goesT.map fun i : Nat => Value.int .i64 (i : Int)).toArray
theorem goes_load {w : World} (h : Tabs w) : (Instr.loadAt 164 (.pointer (some ⟨1, 0, none⟩))).run Tryd.prog w = .ok (.agg goesV) w := by
  unfold goesV
  refine run_loadAt_mid (P := Tryd.prog) w 1 0 164 (goesT.map fun i : Nat => Value.int .i64 (i : Int)) (.array 24 3) (fun j v hj => ?_) (by kernel_rfl) rfl (by kernel_rfl)
  have hj' : j < 24 := by
    have := (List.getElem?_eq_some_iff.1 hj).1
    simpa [goesT] using this
  rw [Nat.zero_add, h.1 j hj', ← hj]
  unfold goesN
  rw [List.getElem?_map, List.getD_eq_getElem?_getD]
  have : goesT[j]? = some (goesT[j]'(by simpa [goesT] using hj')) := List.getElem?_eq_getElem _
  rw [this]
  rfl
theorem Tabs.at {w w' : World} (h : Tabs w) (hb : Below w.heap.size w w') : Tabs w' := h.below hb h.lt.1 h.lt.2.1 h.lt.2.2
theorem goes_at {k : Nat} (h : k < 24) : goesV[k]? = some (.int .i64 ((goesN k : Nat) : Int)) := by
  unfold goesV goesN
  have hk : k < goesT.length := by simpa [goesT] using h
  simp [List.getElem?_map, List.getElem?_eq_getElem hk, List.getD_eq_getElem?_getD]
theorem lanes_at {X : List (BitVec 64)} {i : Nat} (h : i < X.length) : (X.map laneV)[i]? = some (laneV (at0 X i)) := by
  simp [at0, List.getElem?_map, List.getElem?_eq_getElem h, List.getD_eq_getElem?_getD]
theorem lanes_set {X : List (BitVec 64)} {j : Nat} {x : BitVec 64} (h : j < X.length) : splice (X.map laneV) j [laneV x] = (X.set j x).map laneV := by
  unfold splice
  rw [List.map_set, List.set_eq_take_append_cons_drop, if_pos (by simpa using h)]
  simp
def cL (S : List (BitVec 64)) (k : Nat) : List (BitVec 64) := mapL 5 fun x => if x < k then colL S x else 0
theorem cL_len (S : List (BitVec 64)) (k : Nat) : (cL S k).length = 5 := mapL_len _ _
theorem cL_step (S : List (BitVec 64)) {k : Nat} (h : k < 5) : (cL S k).set k (colL S k) = cL S (k + 1) := by
  unfold cL
  rw [mapL_set]
  refine mapL_ext fun i hi => ?_
  by_cases e : i = k
  · subst e; rw [if_pos rfl, if_pos (by omega)]
  · rw [if_neg e]
    by_cases e2 : i < k
    · rw [if_pos e2, if_pos (by omega)]
    · rw [if_neg e2, if_neg (by omega)]
theorem cL_zero (S : List (BitVec 64)) : cL S 0 = List.replicate 5 0 := by
  unfold cL mapL; rfl
theorem cL_all (S : List (BitVec 64)) : cL S 5 = (List.range 5).map (colL S) := by
  unfold cL
  exact mapL_ext fun i hi => if_pos hi
theorem thL_len (S C : List (BitVec 64)) (k : Nat) : (thL S C k).length = 25 := mapL_len _ _
theorem thL_zero {S C : List (BitVec 64)} (h : S.length = 25) : thL S C 0 = S := by
  unfold thL
  rw [mapL_ext (g := at0 S) (fun i hi => if_neg (by omega))]
  have := mapL_at0 S
  rwa [h] at this
theorem thL_at {S C : List (BitVec 64)} {i : Nat} (h : i < 25) : at0 (thL S C i) i = at0 S i := by
  unfold thL
  rw [at0_mapL _ _ _ h, if_neg (by omega)]
theorem thL_step (S C : List (BitVec 64)) {i : Nat} (h : i < 25) : (thL S C i).set i (thAt S C i) = thL S C (i + 1) := by
  unfold thL
  rw [mapL_set]
  refine mapL_ext fun j hj => ?_
  by_cases e : j = i
  · subst e; rw [if_pos rfl, if_pos (by omega)]
  · rw [if_neg e]
    by_cases e2 : j < i
    · rw [if_pos e2, if_pos (by omega)]
    · rw [if_neg e2, if_neg (by omega)]
theorem rhoL_len {A : List (BitVec 64)} (h : A.length = 25) : ∀ k, (rhoL A k).1.length = 25
  | 0 => h
  | k + 1 => by simp [rhoL, rhoL_len h k]
def chiK (B : List (BitVec 64)) (k : Nat) : List (BitVec 64) := mapL 25 fun i => if i < k then chiAt B i else at0 B i
theorem chiK_len (B : List (BitVec 64)) (k : Nat) : (chiK B k).length = 25 := mapL_len _ _
theorem chiK_zero {B : List (BitVec 64)} (h : B.length = 25) : chiK B 0 = B := by
  unfold chiK
  rw [mapL_ext (g := at0 B) (fun i hi => if_neg (by omega))]
  have := mapL_at0 B
  rwa [h] at this
theorem chiK_at {B : List (BitVec 64)} {k i : Nat} (h : k ≤ i) (hi : i < 25) : at0 (chiK B k) i = at0 B i := by
  unfold chiK
  rw [at0_mapL _ _ _ hi, if_neg (by omega)]
theorem chiK_step (B : List (BitVec 64)) {i : Nat} (h : i < 25) : (chiK B i).set i (chiAt B i) = chiK B (i + 1) := by
  unfold chiK
  rw [mapL_set]
  refine mapL_ext fun j hj => ?_
  by_cases e : j = i
  · subst e; rw [if_pos rfl, if_pos (by omega)]
  · rw [if_neg e]
    by_cases e2 : j < i
    · rw [if_pos e2, if_pos (by omega)]
    · rw [if_neg e2, if_neg (by omega)]
theorem chiK_all (B : List (BitVec 64)) : chiK B 25 = chiL B := by
  unfold chiK chiL
  exact mapL_ext fun i hi => if_pos hi
section
variable {P : Program} {ρ : Operand → Value} {w : World} {d : Option Tmp} {t X Y E : TypeId} {n : Nat} {pos : String} {after : Array Edge} {guard : Option (Nat × Bool)} {x y : Operand}
theorem ex_ixA {cs : Array Value} {i : Nat} {v : Value} (hX : P.underlying X = some (.array n E)) (hs : (sizeOf E).run P w = .ok 1 w) (hx : ρ x = .agg cs) (hy : ρ y = .int .i64 i) (hi : i < n) (hb : (isAgg E).run P w = .ok false w) (hv : cs[i]? = some v) :
    (execOp ρ ⟨d, .index X x y, t, pos, after, guard⟩).run P w = .ok (.value v) w := by
  have h1 : (0 : Int) ≤ (i : Int) ∧ (i : Int) < (n : Int) := by omega
  simp [execOp, hx, hy, Instr.index, part, Sem.run_bind, run_underlying hX w, asIntOf, hs, h1, hb, hv, hi]
theorem ex_atA {b i : Nat} (hX : P.underlying X = some (.array n E)) (hs : (sizeOf E).run P w = .ok 1 w) (hx : ρ x = .pointer (some ⟨b, 0, none⟩)) (hy : ρ y = .int .i64 i) (hi : i < n) :
    (execOp ρ ⟨d, .indexAddr X x y, t, pos, after, guard⟩).run P w = .ok (.value (.pointer (some ⟨b, i, none⟩))) w := by
  have hadd : (⟨b, 0, none⟩ : Addr).add (i * 1) = ⟨b, i, none⟩ := by rw [Addr.add_mid]; simp
  have hlt : (0 : Int) ≤ (i : Int) ∧ (i : Int) < (n : Int) := by omega
  simp only [Nat.mul_one] at hadd
  simp [execOp, hx, hy, Instr.indexAt, Instr.sureAddr, asIntOf, Sem.run_bind, Sem.run_pure, Result.andThen_ok, run_underlying hX w, hs, hadd, hlt, hi]
theorem ex_xorL {a b : BitVec 64} (hx : ρ x = laneV a) (hy : ρ y = laneV b) : (execOp ρ ⟨d, .binOp .xor X x y Y, t, pos, after, guard⟩).run P w = .ok (.value (laneV (a ^^^ b))) w := by
  refine ex_bin hx hy ?_
  rw [run_binInt _ (by simp)]
  show Result.ok (Value.int .u64 (bits .xor .u64 (lane a) (lane b))) w = _
  rw [lane_xor]
theorem ex_andL {a b : BitVec 64} (hx : ρ x = laneV a) (hy : ρ y = laneV b) : (execOp ρ ⟨d, .binOp .and X x y Y, t, pos, after, guard⟩).run P w = .ok (.value (laneV (a &&& b))) w := by
  refine ex_bin hx hy ?_
  rw [run_binInt _ (by simp)]
  show Result.ok (Value.int .u64 (bits .and .u64 (lane a) (lane b))) w = _
  rw [lane_and]
theorem ex_notL {a : BitVec 64} (hx : ρ x = laneV a) : (execOp ρ ⟨d, .unOp .xor X x, t, pos, after, guard⟩).run P w = .ok (.value (laneV (~~~ a))) w := by
  have e : (18446744073709551615 : Int) = lane (BitVec.allOnes 64) := by decide
  have h : bits .xor .u64 (18446744073709551615 : Int) (lane a) = lane (~~~ a) := by rw [e, lane_xor, BitVec.allOnes_xor]
  simp only [execOp, hx]
  show Result.ok (Next.value (.int .u64 (bits .xor .u64 (18446744073709551615 : Int) (lane a)))) w = _
  rw [h]
theorem ex_remA {m n : Nat} (hx : ρ x = .int .i64 (m : Int)) (hy : ρ y = .int .i64 (n : Int)) (hn : 0 < n) (hm : m ≤ 9223372036854775807) : (execOp ρ ⟨d, .binOp .rem X x y Y, t, pos, after, guard⟩).run P w = .ok (.value (.int .i64 ((m % n : Nat) : Int))) w := by
  refine ex_bin hx hy ?_
  rw [run_binInt _ (by simp)]
  show (Op.intDiv .rem .i64 m n).run P w = _
  unfold Op.intDiv
  rw [if_neg (by omega)]
  show Result.ok (Value.int .i64 (Int.tmod (m : Int) (n : Int))) w = _
  rw [Int.tmod_eq_emod_of_nonneg (by omega)]
  rfl
end
end Go.Proofs.YtikklmjengkliaaDoor
