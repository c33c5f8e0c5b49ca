/- Rules, plain laws and walks: TP3 TP4 -/
import Derived.Test.YtcpngkkconalhaaBT9
namespace Go.Proofs.Ytcpngkkconalhaa
open Go.RowKit
set_option maxRecDepth 100000
set_option linter.unusedVariables false
set_option linter.unusedSimpArgs false
theorem applyE_none (r : Wr) : (applyE [] [r]).1 = wrE r := by
  unfold applyE
  rw [if_neg (by simp)]
  by_cases h : wrE r = 0
  · unfold applyR
    rw [if_neg (by simp [h])]
    cases hw : writeF [] r with
    | none =>
      have := (writeF_none (m := 0) (ForestOk.nil 0) (wrE_ok.1 h) (by omega) hw).1
      simp at this
    | some g => exact h.symm
  · rw [wr_bad h]
def chkAt (l : List Wr) : Nat → Nat → Int
  | 0, _ => 0
  | n + 1, k => match l[k]? with
    | none => 0
    | some r => if k = 10 then 1 else if wrE r ≠ 0 then wrE r else chkAt l n (k + 1)
theorem chkAt_at {l : List Wr} {k : Nat} {r : Wr} (hp : l[k]? = some r) : chkAt l (l.length - k) k = if k = 10 then 1 else if wrE r ≠ 0 then wrE r else chkAt l (l.length - (k + 1)) (k + 1) := by
  obtain ⟨hk, _⟩ := List.getElem?_eq_some_iff.1 hp
  rw [show l.length - k = (l.length - (k + 1)) + 1 from by omega]
  simp only [chkAt, hp]
theorem chkAt_end {l : List Wr} {k : Nat} (hk : l.length ≤ k) : chkAt l (l.length - k) k = 0 := by rw [show l.length - k = 0 from by omega]; rfl
theorem chkAt_ok {l : List Wr} : ∀ n k, n + k = l.length → (chkAt l n k = 0 ↔ ∀ (i : Nat) r, k ≤ i → l[i]? = some r → i ≠ 10 ∧ wrE r = 0)
  | 0, k, h => ⟨fun _ i r hi hr => by have := (List.getElem?_eq_some_iff.1 hr).1; omega, fun _ => rfl⟩
  | n + 1, k, h => by
    have hk : k < l.length := by omega
    obtain ⟨x, hp⟩ : ∃ x, l[k]? = some x := ⟨_, List.getElem?_eq_getElem hk⟩
    simp only [chkAt, hp]
    by_cases h1 : k = 10
    · rw [if_pos h1]
      exact ⟨fun h => by omega, fun h => absurd h1 (h k _ (Nat.le_refl _) hp).1⟩
    · rw [if_neg h1]
      by_cases h2 : wrE x = 0
      · rw [if_neg (by simpa using h2), chkAt_ok n (k + 1) (by omega)]
        refine ⟨fun h i r hi hr => ?_, fun h i r hi hr => h i r (by omega) hr⟩
        rcases Nat.lt_or_eq_of_le hi with hi | rfl
        · exact h i r hi hr
        · rw [hp] at hr; cases hr; exact ⟨h1, h2⟩
      · rw [if_pos h2]
        exact ⟨fun h => absurd h h2, fun h => absurd (h k _ (Nat.le_refl _) hp).2 h2⟩
def tapeE (m : Cm) : Int := if m.turn < 1 ∨ 1048576 < m.turn then 2 else if m.writes.length < 1 then 1 else chkAt m.writes m.writes.length 0
theorem tapeE_ok {m : Cm} : tapeE m = 0 ↔ CmOk m := by
  unfold tapeE
  by_cases h1 : m.turn < 1 ∨ 1048576 < m.turn
  · rw [if_pos h1]; exact ⟨fun h => by omega, fun h => by have := h.turn; omega⟩
  · rw [if_neg h1]
    by_cases h2 : m.writes.length < 1
    · rw [if_pos h2]; exact ⟨fun h => by omega, fun h => by have := h.some; omega⟩
    · rw [if_neg h2, chkAt_ok _ _ (by omega)]
      constructor
      · intro h
        refine ⟨by omega, ⟨by omega, ?_⟩, fun w hw => ?_⟩
        · rcases Nat.lt_or_ge 10 m.writes.length with h3 | h3
          · exact absurd rfl (h 10 _ (Nat.zero_le _) (List.getElem?_eq_getElem h3)).1
          · exact h3
        · obtain ⟨i, hi, rfl⟩ := List.mem_iff_getElem.1 hw
          exact wrE_ok.1 (h i _ (Nat.zero_le _) (List.getElem?_eq_getElem hi)).2
      · intro h i r _ hr
        have hi := (List.getElem?_eq_some_iff.1 hr).1
        have := h.some.2
        exact ⟨by omega, wrE_ok.2 (h.ok r (List.mem_of_getElem? hr))⟩
theorem byteR_lt (r : Rr) : (byteR r).1 < 256 := UInt8.toNat_lt _
theorem byteR_less (r : Rr) : (byteR r).2.rest.length ≤ r.rest.length := takeR_less 1 r
def decE (b : By) : Int := if (cmR ⟨b, false⟩).2.short = true then 14 else if 0 < (cmR ⟨b, false⟩).2.rest.length then 4 else tapeE ⟨(cmR ⟨b, false⟩).1.1, (cmR ⟨b, false⟩).1.2⟩
def decC (b : By) : Cm := if decE b = 0 then ⟨(cmR ⟨b, false⟩).1.1, (cmR ⟨b, false⟩).1.2⟩ else ⟨0, []⟩
def DecR (m : Cm) (e : Int) (F : Fz) (u : Value) : Prop := ∃ x, u = .tuple #[x, .int .i64 e] ∧ CmV F x m
theorem wrs_step {T k : Nat} {N rk r' : Rr} {acc : List Wr} {w : Wr} (h : wrsR T N = (acc ++ (wrsR (T - k) rk).1, (wrsR (T - k) rk).2)) (hk : k < T) (hw : wrR rk = (w, r')) : wrsR T N = ((acc ++ [w]) ++ (wrsR (T - (k + 1)) r').1, (wrsR (T - (k + 1)) r').2) := by
  rw [h, show T - k = (T - (k + 1)) + 1 from by omega]
  simp only [wrsR, hw]
  simp
theorem wrs_end {T k : Nat} {N rk : Rr} {acc : List Wr} (h : wrsR T N = (acc ++ (wrsR (T - k) rk).1, (wrsR (T - k) rk).2)) (hk : T ≤ k) : wrsR T N = (acc, rk) := by
  rw [show T - k = 0 from by omega] at h
  simpa [wrsR] using h
def Small (w : Wr) : Prop := w.name.length ≤ 100000 ∧ w.key.length ≤ 100000 ∧ w.value.length ≤ 100000
set_option maxHeartbeats 8000000 in
theorem tapeCheck_spec (F : Fz) (w : World) (v : Value) (m : Cm) (hs : Sat w F) (hv : CmV F v m) (hbw : ∀ r ∈ m.writes, Small r) :
    Calls Try.prog 40 #[v] w (Tells w (.int .i64 (tapeE m))) := by
 obtain ⟨x1, y1, rfl, h1⟩ := hv
 obtain ⟨_, _, e1, q2, q3⟩ := Sl.shape h1
 injection e1 with _ _ e1
 subst e1
 unfold maxLen at q3
 have S := St.start hs
 go_enter Try.func40, Try.ntmps40
 refine wp_seq_k (fun K1 hK1 => region_wl ?_)
 refine stNew S (v := fun n => .pointer (some ⟨n, 0, none⟩)) rfl (ex_box (v := (.agg #[(.int .i64 ((m.turn : Nat) : Int)), (.slice x1 m.writes.length y1)])) rfl) (fun n2 w3 S4 => ?_)
 simp only [pS, pN, pA, pC, pZ]
 have S4 : St w F w3 F [⟨n2, [(.int .i64 ((m.turn : Nat) : Int)), (.slice x1 m.writes.length y1)], 50⟩] [] := S4
 refine do_ rfl (.int .i64 0) (ex_assign _) ?_
 simp only [pS, pN, pA, pC, pZ]
 refine wl_nil (hK1 _ _ ?_)
 refine wp_seq_k (fun K5 hK5 => ?_)
 refine wp_seq_k (fun K6 hK6 => region_wl ?_)
 refine do_ rfl (.pointer (some ⟨n2, 0, none⟩)) (ex_field (q := ⟨n2, 0, none⟩) rfl (fa_50_0 _ _)) ?_
 simp only [pS, pN, pA, pC, pZ]
 refine do_ rfl (.int .i64 ((m.turn : Nat) : Int)) (ex_load rfl (load1 (nagg_3 _) (St.cell S4 (i := 0) rfl rfl))) ?_
 simp only [pS, pN, pA, pC, pZ]
 by_cases hc9 : m.turn < 1
 ·refine do_ rfl (.bool true) (ex_lss (m := ((m.turn : Nat) : Int)) (n := (1 : Int)) (b := true) rfl rfl (decide_eq_true (by omega))) ?_
  simp only [pS, pN, pA, pC, pZ]
  refine do_ rfl (.bool true) (ex_move _) ?_
  simp only [pS, pN, pA, pC, pZ]
  refine doN (wanted_no rfl rfl rfl (c := true) rfl (by decide)) ?_
  simp only [pS, pN, pA, pC, pZ]
  refine doN (wanted_no rfl rfl rfl (c := true) rfl (by decide)) ?_
  simp only [pS, pN, pA, pC, pZ]
  refine doN (wanted_no rfl rfl rfl (c := true) rfl (by decide)) ?_
  simp only [pS, pN, pA, pC, pZ]
  refine do_ rfl (.bool true) (ex_pick (b := true) rfl) ?_
  simp only [pS, pN, pA, pC, pZ]
  refine wl_nil (hK6 _ _ ?_)
  refine wp_cond_true rfl ?_
  refine wp_seq_k (fun K7 hK7 => region_wl ?_)
  refine do_ rfl (.int .i64 2) (ex_assign _) ?_
  simp only [pS, pN, pA, pC, pZ]
  refine wl_nil (hK7 _ _ ?_)
  refine wp_ret ?_
  (try simp only [Exit.then, Exit.inBlock, ↓reduceIte, Nat.reduceEqDiff])
  refine bodyPost_ret (v := (.int .i64 2)) ?_ rfl ?_
  ·exact res_t rfl rfl
  ·exact ⟨by unfold tapeE; rw [if_pos (by omega)], S4.gr.below⟩
 ·refine do_ rfl (.bool false) (ex_lss (m := ((m.turn : Nat) : Int)) (n := (1 : Int)) (b := false) rfl rfl (decide_eq_false (by omega))) ?_
  simp only [pS, pN, pA, pC, pZ]
  refine do_ rfl (.bool false) (ex_move _) ?_
  simp only [pS, pN, pA, pC, pZ]
  refine do_ rfl (.pointer (some ⟨n2, 0, none⟩)) (ex_field (q := ⟨n2, 0, none⟩) rfl (fa_50_0 _ _)) ?_
  simp only [pS, pN, pA, pC, pZ]
  refine do_ rfl (.int .i64 ((m.turn : Nat) : Int)) (ex_load rfl (load1 (nagg_3 _) (St.cell S4 (i := 0) rfl rfl))) ?_
  simp only [pS, pN, pA, pC, pZ]
  by_cases hc13 : 1048576 < m.turn
  ·refine do_ rfl (.bool true) (ex_gtr (m := ((m.turn : Nat) : Int)) (n := (1048576 : Int)) (b := true) rfl rfl (decide_eq_true (by omega))) ?_
   simp only [pS, pN, pA, pC, pZ]
   refine do_ rfl (.bool true) (ex_pick (b := false) rfl) ?_
   simp only [pS, pN, pA, pC, pZ]
   refine wl_nil (hK6 _ _ ?_)
   refine wp_cond_true rfl ?_
   refine wp_seq_k (fun K8 hK8 => region_wl ?_)
   refine do_ rfl (.int .i64 2) (ex_assign _) ?_
   simp only [pS, pN, pA, pC, pZ]
   refine wl_nil (hK8 _ _ ?_)
   refine wp_ret ?_
   (try simp only [Exit.then, Exit.inBlock, ↓reduceIte, Nat.reduceEqDiff])
   refine bodyPost_ret (v := (.int .i64 2)) ?_ rfl ?_
   ·exact res_t rfl rfl
   ·exact ⟨by unfold tapeE; rw [if_pos (by omega)], S4.gr.below⟩
  ·refine do_ rfl (.bool false) (ex_gtr (m := ((m.turn : Nat) : Int)) (n := (1048576 : Int)) (b := false) rfl rfl (decide_eq_false (by omega))) ?_
   simp only [pS, pN, pA, pC, pZ]
   refine do_ rfl (.bool false) (ex_pick (b := false) rfl) ?_
   simp only [pS, pN, pA, pC, pZ]
   refine wl_nil (hK6 _ _ ?_)
   refine wp_cond_false rfl ?_
   refine wp_skip ?_
   refine hK5 _ _ ?_
   refine wp_seq_k (fun K9 hK9 => ?_)
   refine wp_seq_k (fun K10 hK10 => region_wl ?_)
   refine do_ rfl (.pointer (some ⟨n2, 1, none⟩)) (ex_field (q := ⟨n2, 1, none⟩) rfl (fa_50_1 _ _)) ?_
   simp only [pS, pN, pA, pC, pZ]
   refine do_ rfl (.slice x1 m.writes.length y1) (ex_load rfl (load1 (nagg_44 _) (St.cell S4 (i := 0) rfl rfl))) ?_
   simp only [pS, pN, pA, pC, pZ]
   refine do_ rfl (.int .i64 ((m.writes.length : Nat) : Int)) (ex_len Try.underlying44 rfl) ?_
   simp only [pS, pN, pA, pC, pZ]
   by_cases hc18 : m.writes.length < 1
   ·refine do_ rfl (.bool true) (ex_lss (m := ((m.writes.length : Nat) : Int)) (n := (1 : Int)) (b := true) rfl rfl (decide_eq_true (by omega))) ?_
    simp only [pS, pN, pA, pC, pZ]
    refine wl_nil (hK10 _ _ ?_)
    refine wp_cond_true rfl ?_
    refine wp_seq_k (fun K11 hK11 => region_wl ?_)
    refine do_ rfl (.int .i64 1) (ex_assign _) ?_
    simp only [pS, pN, pA, pC, pZ]
    refine wl_nil (hK11 _ _ ?_)
    refine wp_ret ?_
    (try simp only [Exit.then, Exit.inBlock, ↓reduceIte, Nat.reduceEqDiff])
    refine bodyPost_ret (v := (.int .i64 1)) ?_ rfl ?_
    ·exact res_t rfl rfl
    ·exact ⟨by unfold tapeE; rw [if_neg (by omega), if_pos (by omega)], S4.gr.below⟩
   ·refine do_ rfl (.bool false) (ex_lss (m := ((m.writes.length : Nat) : Int)) (n := (1 : Int)) (b := false) rfl rfl (decide_eq_false (by omega))) ?_
    simp only [pS, pN, pA, pC, pZ]
    refine wl_nil (hK10 _ _ ?_)
    refine wp_cond_false rfl ?_
    refine wp_skip ?_
    refine hK9 _ _ ?_
    refine wp_seq_k (fun K12 hK12 => ?_)
    refine wp_seq_k (fun K13 hK13 => region_wl ?_)
    refine do_ rfl (.pointer (some ⟨n2, 1, none⟩)) (ex_field (q := ⟨n2, 1, none⟩) rfl (fa_50_1 _ _)) ?_
    simp only [pS, pN, pA, pC, pZ]
    refine do_ rfl (.slice x1 m.writes.length y1) (ex_load rfl (load1 (nagg_44 _) (St.cell S4 (i := 0) rfl rfl))) ?_
    simp only [pS, pN, pA, pC, pZ]
    refine do_ rfl (.int .i64 ((m.writes.length : Nat) : Int)) (ex_len Try.underlying44 rfl) ?_
    simp only [pS, pN, pA, pC, pZ]
    refine do_ rfl (.int .i64 0) (ex_move _) ?_
    simp only [pS, pN, pA, pC, pZ]
    refine wl_nil (hK13 _ _ ?_)
    refine wp_block ?_
    refine wp_loop_g (fun mm aa w16 => ∃ (k : Nat) (F14 : Fz) (u15 : Nat → Value), mm = m.writes.length - k ∧ u15 = slots aa ∧ aa = ⟨#[(.agg #[(.int .i64 ((m.turn : Nat) : Int)), (.slice x1 m.writes.length y1)]), (.pointer (some ⟨n2, 0, none⟩)), (u15 2), (u15 3), (u15 4), (u15 5), (u15 6), (.pointer (some ⟨n2, 0, none⟩)), (.int .i64 ((m.turn : Nat) : Int)), (.bool false), (.bool false), (.pointer (some ⟨n2, 0, none⟩)), (.int .i64 ((m.turn : Nat) : Int)), (.bool false), (.bool false), (.pointer (some ⟨n2, 1, none⟩)), (.slice x1 m.writes.length y1), (.int .i64 ((m.writes.length : Nat) : Int)), (.bool false), (.pointer (some ⟨n2, 1, none⟩)), (.slice x1 m.writes.length y1), (.int .i64 ((m.writes.length : Nat) : Int)), (.int .i64 ((k : Nat) : Int)), (u15 23), (u15 24), (u15 25), (u15 26), (u15 27), (u15 28), (u15 29), (u15 30), (u15 31), (u15 32), (u15 33), (u15 34), (u15 35), (u15 36), (u15 37), (u15 38)], []⟩ ∧ St w F w16 F14 [⟨n2, [(.int .i64 ((m.turn : Nat) : Int)), (.slice x1 m.writes.length y1)], 50⟩] [] ∧ Le F F14 ∧ (k ≤ m.writes.length) ∧ (chkAt m.writes m.writes.length 0 = chkAt m.writes (m.writes.length - k) k)) _ ⟨0, F, _, rfl, rfl, rfl, S4, Le.refl _, (by omega), rfl⟩ ?_
    rintro m17 a18 w19 ⟨k, F14, u15, rfl, -, rfl, S20, le21, hk, hT⟩ K22 hK22
    refine wp_seq_k (fun K23 hK23 => region_wl ?_)
    by_cases hc23 : k < m.writes.length
    ·refine do_ rfl (.bool true) (ex_lss (m := ((k : Nat) : Int)) (n := ((m.writes.length : Nat) : Int)) (b := true) rfl rfl (decide_eq_true (by omega))) ?_
     simp only [pS, pN, pA, pC, pZ]
     refine wl_nil (hK23 _ _ ?_)
     refine wp_seq_k (fun K24 hK24 => ?_)
     refine wp_cond_true rfl ?_
     refine wp_skip ?_
     refine hK24 _ _ ?_
     refine wp_seq_k (fun K25 hK25 => ?_)
     refine wp_block ?_
     refine wp_seq_k (fun K26 hK26 => ?_)
     obtain ⟨p, hp⟩ : ∃ p, m.writes[k]? = some p := ⟨m.writes[k], List.getElem?_eq_getElem hc23⟩
     have hpb := hbw p (List.mem_of_getElem? hp)
     obtain ⟨b27, o28, ha29, xa31, xc32, xa35, xc36, xa40, xc41, c30, c34, c38, c39, r33, r37, r42⟩ := Wrs.get (h1.mono le21) hp
     refine region_wl ?_
     refine do_ rfl (.int .i64 ((k : Nat) : Int)) (ex_move _) ?_
     simp only [pS, pN, pA, pC, pZ]
     refine do_ rfl (.pointer (some ⟨b27, o28 + k * 4, none⟩)) (ex_at (i := k) (sz := 4) Try.underlying44 (sizeof_27 _) rfl ha29 rfl (by omega) rfl) ?_
     simp only [pS, pN, pA, pC, pZ]
     refine do_ rfl (.agg #[(.slice xa31 p.name.length xc32), (.slice xa35 p.key.length xc36), (.bool p.gone), (.slice xa40 p.value.length xc41)]) (ex_load rfl (loadN (cs := [(.slice xa31 p.name.length xc32), (.slice xa35 p.key.length xc36), (.bool p.gone), (.slice xa40 p.value.length xc41)]) Try.underlying27 rfl (size_27) (range4 (St.fz S20 c30) (St.fz S20 c34) (St.fz S20 c38) (St.fz S20 c39)))) ?_
     simp only [pS, pN, pA, pC, pZ]
     refine stNew S20 (v := fun n => .pointer (some ⟨n, 0, none⟩)) rfl (ex_alloc (zero_27 _)) (fun n43 w44 S45 => ?_)
     simp only [pS, pN, pA, pC, pZ]
     have S45 : St w F w44 F14 [⟨n43, [(.slice none 0 0), (.slice none 0 0), (.bool false), (.slice none 0 0)], 27⟩, ⟨n2, [(.int .i64 ((m.turn : Nat) : Int)), (.slice x1 m.writes.length y1)], 50⟩] [] := S45
     refine do_ rfl (.int .i64 ((k : Nat) : Int)) (ex_assign _) ?_
     simp only [pS, pN, pA, pC, pZ]
     refine stStore (i := 0) (v := (.agg #[(.slice xa31 p.name.length xc32), (.slice xa35 p.key.length xc36), (.bool p.gone), (.slice xa40 p.value.length xc41)])) S45 rfl rfl rfl rfl (size_27) (allc4 rfl rfl rfl rfl) (Nat.le_of_ble_eq_true rfl) (fun w46 S47 => ?_)
     simp only [pS, pN, pA, pC, pZ]
     have S47 : St w F w46 F14 [⟨n43, [(.slice xa31 p.name.length xc32), (.slice xa35 p.key.length xc36), (.bool p.gone), (.slice xa40 p.value.length xc41)], 27⟩, ⟨n2, [(.int .i64 ((m.turn : Nat) : Int)), (.slice x1 m.writes.length y1)], 50⟩] [] := S47
     refine wl_nil (hK26 _ _ ?_)
     refine wp_seq_k (fun K48 hK48 => ?_)
     refine wp_seq_k (fun K49 hK49 => region_wl ?_)
     refine do_ rfl (.int .i64 ((k : Nat) : Int)) (ex_move _) ?_
     simp only [pS, pN, pA, pC, pZ]
     by_cases hc28 : k = 10
     ·refine do_ rfl (.bool true) (ex_eql (m := ((k : Nat) : Int)) (n := (10 : Int)) (b := true) rfl rfl (beq_iff_eq.2 (by omega))) ?_
      simp only [pS, pN, pA, pC, pZ]
      refine wl_nil (hK49 _ _ ?_)
      refine wp_cond_true rfl ?_
      refine wp_seq_k (fun K50 hK50 => region_wl ?_)
      refine do_ rfl (.int .i64 1) (ex_assign _) ?_
      simp only [pS, pN, pA, pC, pZ]
      refine wl_nil (hK50 _ _ ?_)
      refine wp_ret ?_
      (try simp only [Exit.then, Exit.inBlock, ↓reduceIte, Nat.reduceEqDiff])
      refine bodyPost_ret (v := (.int .i64 1)) ?_ rfl ?_
      ·exact res_t rfl rfl
      ·exact ⟨by unfold tapeE; rw [if_neg (by omega), if_neg (by omega), hT, chkAt_at hp, if_pos (by omega)], S47.gr.below⟩
     ·refine do_ rfl (.bool false) (ex_eql (m := ((k : Nat) : Int)) (n := (10 : Int)) (b := false) rfl rfl (beq_eq_false_iff_ne.2 (by omega))) ?_
      simp only [pS, pN, pA, pC, pZ]
      refine wl_nil (hK49 _ _ ?_)
      refine wp_cond_false rfl ?_
      refine wp_skip ?_
      refine hK48 _ _ ?_
      refine wp_seq_k (fun K51 hK51 => region_wl ?_)
      refine do_ rfl (.agg #[(.slice xa31 p.name.length xc32), (.slice xa35 p.key.length xc36), (.bool p.gone), (.slice xa40 p.value.length xc41)]) (ex_load rfl (loadN (cs := [(.slice xa31 p.name.length xc32), (.slice xa35 p.key.length xc36), (.bool p.gone), (.slice xa40 p.value.length xc41)]) Try.underlying27 rfl (size_27) (St.range S47 (i := 0) rfl 0 [(.slice xa31 p.name.length xc32), (.slice xa35 p.key.length xc36), (.bool p.gone), (.slice xa40 p.value.length xc41)] (sub_range 0 rfl)))) ?_
      simp only [pS, pN, pA, pC, pZ]
      refine stNew S47 (v := fun n => .slice (some ⟨n, 0, none⟩) 1 1) rfl (ex_lit (ps := #[(0, (.agg #[(.slice xa31 p.name.length xc32), (.slice xa35 p.key.length xc36), (.bool p.gone), (.slice xa40 p.value.length xc41)]))]) (cells := #[(.slice xa31 p.name.length xc32), (.slice xa35 p.key.length xc36), (.bool p.gone), (.slice xa40 p.value.length xc41)]) (E := 27) (bmap1 rfl) (fun w => by kernel_rfl)) (fun n52 w53 S54 => ?_)
      simp only [pS, pN, pA, pC, pZ]
      have S54 : St w F w53 F14 [⟨n52, [(.slice xa31 p.name.length xc32), (.slice xa35 p.key.length xc36), (.bool p.gone), (.slice xa40 p.value.length xc41)], 27⟩, ⟨n43, [(.slice xa31 p.name.length xc32), (.slice xa35 p.key.length xc36), (.bool p.gone), (.slice xa40 p.value.length xc41)], 27⟩, ⟨n2, [(.int .i64 ((m.turn : Nat) : Int)), (.slice x1 m.writes.length y1)], 50⟩] [] := S54
      obtain ⟨S55, le56, hc57⟩ := St.freezeBlk S54 (i := 0) rfl
      have r59 : Wrs _ (.slice (some ⟨n52, 0, none⟩) 1 1) [p] := sl_of_block (R := WrC) (l := [p]) (el := [[(.slice xa31 p.name.length xc32), (.slice xa35 p.key.length xc36), (.bool p.gone), (.slice xa40 p.value.length xc41)]]) hc57 rfl ⟨⟨_, _, _, _, rfl, (r33.mono le56), (r37.mono le56), rfl, (r42.mono le56)⟩, trivial⟩ (by simp) (by unfold maxLen; simp)
      generalize addF F14 w53 n52 = F58 at *
      have S55 : St w F w53 F58 [⟨n43, [(.slice xa31 p.name.length xc32), (.slice xa35 p.key.length xc36), (.bool p.gone), (.slice xa40 p.value.length xc41)], 27⟩, ⟨n2, [(.int .i64 ((m.turn : Nat) : Int)), (.slice x1 m.writes.length y1)], 50⟩] [] := S55
      refine stGives S55 rfl (ex_fn (vs := #[(.slice none 0 0), (.slice (some ⟨n52, 0, none⟩) 1 1)]) (map2 rfl rfl) rfl (ent_34 _ _)) (apply_spec _ _ _ _ [] [p] (S55).sat (Sl.nil _ _ _) r59 (ForestOk.nil 60) (fun q hq => by rw [List.mem_singleton.1 hq]; exact hpb)) ?_
      intro v65 w60 F62 S61 le63 R64
      obtain ⟨_, rfl, r68⟩ := R64
      obtain ⟨a66, c67, rfl, _⟩ := Sl.shape r68
      have hee := applyE_none p
      simp only [pS, pN, pA, pC, pZ]
      refine do_ rfl (.tuple #[(.slice a66 (applyE [] [p]).2.length c67), (.int .i64 (applyE [] [p]).1)]) (ex_move _) ?_
      simp only [pS, pN, pA, pC, pZ]
      refine do_ rfl (.slice a66 (applyE [] [p]).2.length c67) (ex_extract rfl rfl) ?_
      simp only [pS, pN, pA, pC, pZ]
      refine do_ rfl (.int .i64 (applyE [] [p]).1) (ex_extract rfl rfl) ?_
      simp only [pS, pN, pA, pC, pZ]
      refine do_ rfl (.slice a66 (applyE [] [p]).2.length c67) (ex_assign _) ?_
      simp only [pS, pN, pA, pC, pZ]
      refine do_ rfl (.int .i64 (applyE [] [p]).1) (ex_assign _) ?_
      simp only [pS, pN, pA, pC, pZ]
      refine wl_nil (hK51 _ _ ?_)
      refine wp_seq_k (fun K69 hK69 => region_wl ?_)
      refine do_ rfl (.int .i64 (applyE [] [p]).1) (ex_move _) ?_
      simp only [pS, pN, pA, pC, pZ]
      by_cases hc36 : (applyE [] [p]).1 = (0 : Int)
      ·refine do_ rfl (.bool false) (ex_neq (m := (applyE [] [p]).1) (n := (0 : Int)) (b := false) rfl rfl (bne_eq_false_iff_eq.2 (by omega))) ?_
       simp only [pS, pN, pA, pC, pZ]
       refine wl_nil (hK69 _ _ ?_)
       refine wp_cond_false rfl ?_
       refine wp_skip ?_
       refine hK25 _ _ ?_
       refine region_wl ?_
       refine do_ rfl (.int .i64 (((k + 1) : Nat) : Int)) (ex_add (m := ((k : Nat) : Int)) (n := (1 : Int)) (r := (((k + 1) : Nat) : Int)) rfl rfl (by omega) (by omega) (by omega)) ?_
       simp only [pS, pN, pA, pC, pZ]
       refine do_ rfl (.int .i64 (((k + 1) : Nat) : Int)) (ex_move _) ?_
       simp only [pS, pN, pA, pC, pZ]
       refine wl_nil ?_
       have S61 := St.drop S61 (L' := [⟨n2, [(.int .i64 ((m.turn : Nat) : Int)), (.slice x1 m.writes.length y1)], 50⟩]) (.cons _ (List.Sublist.refl _))
       exact hK22 _ _ _ (by omega) ⟨(k + 1), F62, _, rfl, rfl, rfl, S61, ((le21.trans le56).trans le63), (by omega), (by rw [hT, chkAt_at hp, if_neg (by omega), if_neg (by omega)])⟩
      ·refine do_ rfl (.bool true) (ex_neq (m := (applyE [] [p]).1) (n := (0 : Int)) (b := true) rfl rfl (bne_iff_ne.2 (by omega))) ?_
       simp only [pS, pN, pA, pC, pZ]
       refine wl_nil (hK69 _ _ ?_)
       refine wp_cond_true rfl ?_
       refine wp_seq_k (fun K70 hK70 => region_wl ?_)
       refine do_ rfl (.int .i64 (applyE [] [p]).1) (ex_move _) ?_
       simp only [pS, pN, pA, pC, pZ]
       refine do_ rfl (.int .i64 (applyE [] [p]).1) (ex_assign _) ?_
       simp only [pS, pN, pA, pC, pZ]
       refine wl_nil (hK70 _ _ ?_)
       refine wp_ret ?_
       (try simp only [Exit.then, Exit.inBlock, ↓reduceIte, Nat.reduceEqDiff])
       refine bodyPost_ret (v := (.int .i64 (applyE [] [p]).1)) ?_ rfl ?_
       ·exact res_t rfl rfl
       ·exact ⟨by unfold tapeE; rw [if_neg (by omega), if_neg (by omega), hT, chkAt_at hp, if_neg (by omega), if_pos (by omega), hee], S61.gr.below⟩
    ·refine do_ rfl (.bool false) (ex_lss (m := ((k : Nat) : Int)) (n := ((m.writes.length : Nat) : Int)) (b := false) rfl rfl (decide_eq_false (by omega))) ?_
     simp only [pS, pN, pA, pC, pZ]
     refine wl_nil (hK23 _ _ ?_)
     refine wp_seq_k (fun K71 hK71 => ?_)
     refine wp_cond_false rfl ?_
     refine wp_exit ?_
     refine hK12 _ _ ?_
     refine wp_seq_k (fun K72 hK72 => region_wl ?_)
     refine do_ rfl (.int .i64 0) (ex_assign _) ?_
     simp only [pS, pN, pA, pC, pZ]
     refine wl_nil (hK72 _ _ ?_)
     refine wp_ret ?_
     (try simp only [Exit.then, Exit.inBlock, ↓reduceIte, Nat.reduceEqDiff])
     refine bodyPost_ret (v := (.int .i64 0)) ?_ rfl ?_
     ·exact res_t rfl rfl
     ·exact ⟨by unfold tapeE; rw [if_neg (by omega), if_neg (by omega), hT, chkAt_end (by omega)], S20.gr.below⟩
set_option maxHeartbeats 8000000 in
theorem decode_spec (F : Fz) (w : World) (v : Value) (b : By) (hs : Sat w F) (hb : Bs F v b) (hl : b.length ≤ 4000) :
    Calls Try.prog 38 #[v] w (Gives w F (DecR (decC b) (decE b))) := by
 obtain ⟨x, y, rfl, hc1, hc2⟩ := hb.shape
 unfold maxLen at hc2
 have hl0 : (⟨b, false⟩ : Rr).rest.length ≤ 4000 := hl
 obtain ⟨i27, hi27, hz27, hs27, hb27⟩ := info_parts info_27
 have S := St.start hs
 go_enter Try.func38, Try.ntmps38
 refine wp_seq_k (fun K1 hK1 => region_wl ?_)
 refine stNew S (v := fun n => .pointer (some ⟨n, 0, none⟩)) rfl (ex_alloc (zero_50 _)) (fun n2 w3 S4 => ?_)
 simp only [pS, pN, pA, pC, pZ]
 have S4 : St w F w3 F [⟨n2, [(.int .i64 0), (.slice none 0 0)], 50⟩] [] := S4
 refine do_ rfl (.int .i64 0) (ex_assign _) ?_
 simp only [pS, pN, pA, pC, pZ]
 refine wl_nil (hK1 _ _ ?_)
 refine wp_seq_k (fun K5 hK5 => ?_)
 refine wp_seq_k (fun K6 hK6 => region_wl ?_)
 refine do_ rfl (.slice x b.length y) (ex_move _) ?_
 simp only [pS, pN, pA, pC, pZ]
 refine do_ rfl (.int .i64 ((b.length : Nat) : Int)) (ex_len Try.underlying25 rfl) ?_
 simp only [pS, pN, pA, pC, pZ]
 refine do_ rfl (.bool false) (ex_gtr (m := ((b.length : Nat) : Int)) (n := (4000 : Int)) (b := false) rfl rfl (decide_eq_false (by omega))) ?_
 simp only [pS, pN, pA, pC, pZ]
 refine wl_nil (hK6 _ _ ?_)
 refine wp_cond_false rfl ?_
 refine wp_skip ?_
 refine hK5 _ _ ?_
 refine wp_seq_k (fun K7 hK7 => region_wl ?_)
 refine do_ rfl (.slice x b.length y) (ex_move _) ?_
 simp only [pS, pN, pA, pC, pZ]
 refine do_ rfl (.agg #[(.slice x b.length y), (.bool false)]) (ex_build (ps := #[(0, (.slice x b.length y))]) (bmap1 rfl) (by kernel_rfl)) ?_
 simp only [pS, pN, pA, pC, pZ]
 refine stNew S4 (v := fun n => .pointer (some ⟨n, 0, none⟩)) rfl (ex_box (v := (.agg #[(.slice x b.length y), (.bool false)])) rfl) (fun n8 w9 S10 => ?_)
 simp only [pS, pN, pA, pC, pZ]
 have S10 : St w F w9 F [⟨n8, [(.slice x b.length y), (.bool false)], 120⟩, ⟨n2, [(.int .i64 0), (.slice none 0 0)], 50⟩] [] := S10
 refine do_ rfl (.pointer (some ⟨n8, 0, none⟩)) (ex_assign _) ?_
 simp only [pS, pN, pA, pC, pZ]
 refine wl_nil (hK7 _ _ ?_)
 refine wp_seq_k (fun K11 hK11 => region_wl ?_)
 refine do_ rfl (.pointer (some ⟨n8, 0, none⟩)) (ex_move _) ?_
 simp only [pS, pN, pA, pC, pZ]
 have S12 := St.front S10 (i := 0) rfl
 have S12 : St w F w9 F [⟨n8, [(.slice x b.length y), (.bool false)], 120⟩, ⟨n2, [(.int .i64 0), (.slice none 0 0)], 50⟩] [] := S12
 refine stByte rfl (ex_fn (vs := #[(.pointer (some ⟨n8, 0, none⟩))]) (map1 rfl) rfl (ent_71 _ _)) (byte_spec (r := (⟨b, false⟩ : Rr)) S12 hb (by omega)) ?_
 intro a13 c14 w15 F16 le17 S18 r19
 have hltX20 := byteR_lt (⟨b, false⟩ : Rr)
 have hleX20 := byteR_less (⟨b, false⟩ : Rr)
 generalize hX20 : byteR (⟨b, false⟩ : Rr) = X20 at *
 simp only [pS, pN, pA, pC, pZ]
 refine do_ rfl (.int .i64 (((X20.1 * 65536) : Nat) : Int)) (ex_shlN (m := X20.1) (n := 16) (r := X20.1 * 65536) rfl rfl (by decide) rfl (by omega)) ?_
 simp only [pS, pN, pA, pC, pZ]
 refine do_ rfl (.pointer (some ⟨n8, 0, none⟩)) (ex_move _) ?_
 simp only [pS, pN, pA, pC, pZ]
 have S21 := St.front S18 (i := 0) rfl
 have S21 : St w F w15 F16 [⟨n8, [(.slice a13 X20.2.rest.length c14), (.bool X20.2.short)], 120⟩, ⟨n2, [(.int .i64 0), (.slice none 0 0)], 50⟩] [] := S21
 refine stByte rfl (ex_fn (vs := #[(.pointer (some ⟨n8, 0, none⟩))]) (map1 rfl) rfl (ent_71 _ _)) (byte_spec (r := X20.2) S21 r19 (by omega)) ?_
 intro a22 c23 w24 F25 le26 S27 r28
 have hltX29 := byteR_lt X20.2
 have hleX29 := byteR_less X20.2
 generalize hX29 : byteR X20.2 = X29 at *
 simp only [pS, pN, pA, pC, pZ]
 refine do_ rfl (.int .i64 (((X29.1 * 256) : Nat) : Int)) (ex_shlN (m := X29.1) (n := 8) (r := X29.1 * 256) rfl rfl (by decide) rfl (by omega)) ?_
 simp only [pS, pN, pA, pC, pZ]
 refine do_ rfl (.int .i64 ((((X20.1 * 65536) + (X29.1 * 256)) : Nat) : Int)) (ex_orN (m := (X20.1 * 65536)) (n := (X29.1 * 256)) (r := (X20.1 * 65536) + (X29.1 * 256)) rfl rfl (by omega) (by omega) (or16 _ _ (by omega))) ?_
 simp only [pS, pN, pA, pC, pZ]
 refine do_ rfl (.pointer (some ⟨n8, 0, none⟩)) (ex_move _) ?_
 simp only [pS, pN, pA, pC, pZ]
 have S30 := St.front S27 (i := 0) rfl
 have S30 : St w F w24 F25 [⟨n8, [(.slice a22 X29.2.rest.length c23), (.bool X29.2.short)], 120⟩, ⟨n2, [(.int .i64 0), (.slice none 0 0)], 50⟩] [] := S30
 refine stByte rfl (ex_fn (vs := #[(.pointer (some ⟨n8, 0, none⟩))]) (map1 rfl) rfl (ent_71 _ _)) (byte_spec (r := X29.2) S30 r28 (by omega)) ?_
 intro a31 c32 w33 F34 le35 S36 r37
 have hltX38 := byteR_lt X29.2
 have hleX38 := byteR_less X29.2
 generalize hX38 : byteR X29.2 = X38 at *
 simp only [pS, pN, pA, pC, pZ]
 refine do_ rfl (.int .i64 (((((X20.1 * 65536) + (X29.1 * 256)) + X38.1) : Nat) : Int)) (ex_orN (m := ((X20.1 * 65536) + (X29.1 * 256))) (n := X38.1) (r := ((X20.1 * 65536) + (X29.1 * 256)) + X38.1) rfl rfl (by omega) (by omega) (or8 _ _ _ (by omega))) ?_
 simp only [pS, pN, pA, pC, pZ]
 refine do_ rfl (.agg #[(.int .i64 (((((X20.1 * 65536) + (X29.1 * 256)) + X38.1) : Nat) : Int)), (.slice none 0 0)]) (ex_build (ps := #[(0, (.int .i64 (((((X20.1 * 65536) + (X29.1 * 256)) + X38.1) : Nat) : Int)))]) (bmap1 rfl) (by kernel_rfl)) ?_
 simp only [pS, pN, pA, pC, pZ]
 refine stNew S36 (v := fun n => .pointer (some ⟨n, 0, none⟩)) rfl (ex_alloc (zero_50 _)) (fun n39 w40 S41 => ?_)
 simp only [pS, pN, pA, pC, pZ]
 have S41 : St w F w40 F34 [⟨n39, [(.int .i64 0), (.slice none 0 0)], 50⟩, ⟨n8, [(.slice a31 X38.2.rest.length c32), (.bool X38.2.short)], 120⟩, ⟨n2, [(.int .i64 0), (.slice none 0 0)], 50⟩] [] := S41
 refine stStore (i := 0) (v := (.agg #[(.int .i64 (((((X20.1 * 65536) + (X29.1 * 256)) + X38.1) : Nat) : Int)), (.slice none 0 0)])) S41 rfl rfl rfl rfl (size_50) (allc2 rfl rfl) (Nat.le_of_ble_eq_true rfl) (fun w42 S43 => ?_)
 simp only [pS, pN, pA, pC, pZ]
 have S43 : St w F w42 F34 [⟨n39, [(.int .i64 (((((X20.1 * 65536) + (X29.1 * 256)) + X38.1) : Nat) : Int)), (.slice none 0 0)], 50⟩, ⟨n8, [(.slice a31 X38.2.rest.length c32), (.bool X38.2.short)], 120⟩, ⟨n2, [(.int .i64 0), (.slice none 0 0)], 50⟩] [] := S43
 refine wl_nil (hK11 _ _ ?_)
 refine wp_seq_k (fun K44 hK44 => ?_)
 refine wp_seq_k (fun K45 hK45 => region_wl ?_)
 refine do_ rfl (.pointer (some ⟨n8, 0, none⟩)) (ex_move _) ?_
 simp only [pS, pN, pA, pC, pZ]
 have S46 := St.front S43 (i := 1) rfl
 have S46 : St w F w42 F34 [⟨n8, [(.slice a31 X38.2.rest.length c32), (.bool X38.2.short)], 120⟩, ⟨n39, [(.int .i64 (((((X20.1 * 65536) + (X29.1 * 256)) + X38.1) : Nat) : Int)), (.slice none 0 0)], 50⟩, ⟨n2, [(.int .i64 0), (.slice none 0 0)], 50⟩] [] := S46
 refine stByte rfl (ex_fn (vs := #[(.pointer (some ⟨n8, 0, none⟩))]) (map1 rfl) rfl (ent_71 _ _)) (byte_spec (r := X38.2) S46 r37 (by omega)) ?_
 intro a47 c48 w49 F50 le51 S52 r53
 have hltX54 := byteR_lt X38.2
 have hleX54 := byteR_less X38.2
 generalize hX54 : byteR X38.2 = X54 at *
 simp only [pS, pN, pA, pC, pZ]
 refine do_ rfl (.int .i64 0) (ex_move _) ?_
 simp only [pS, pN, pA, pC, pZ]
 refine wl_nil (hK45 _ _ ?_)
 refine wp_block ?_
 have S55 := St.addNil S52 4 WrC WrC.mono 27 w.heap.size
 refine wp_loop_g (fun mm aa w58 => ∃ (k : Nat) (rk : Rr) (acc : List Wr) (v : Value) (ra : Option Addr) (rc : Nat) (F56 : Fz) (u57 : Nat → Value), mm = X54.1 - k ∧ u57 = slots aa ∧ aa = ⟨#[(.slice x b.length y), undef, (.pointer (some ⟨n2, 0, none⟩)), (.int .i64 0), (.pointer (some ⟨n8, 0, none⟩)), (.pointer (some ⟨n39, 0, none⟩)), (u57 6), (u57 7), undef, (.slice x b.length y), (.int .i64 ((b.length : Nat) : Int)), (.bool false), undef, (.slice x b.length y), (.agg #[(.slice x b.length y), (.bool false)]), (.pointer (some ⟨n8, 0, none⟩)), (.pointer (some ⟨n8, 0, none⟩)), (.int .i64 ((X20.1 : Nat) : Int)), (.int .i64 (((X20.1 * 65536) : Nat) : Int)), (.pointer (some ⟨n8, 0, none⟩)), (.int .i64 ((X29.1 : Nat) : Int)), (.int .i64 (((X29.1 * 256) : Nat) : Int)), (.int .i64 ((((X20.1 * 65536) + (X29.1 * 256)) : Nat) : Int)), (.pointer (some ⟨n8, 0, none⟩)), (.int .i64 ((X38.1 : Nat) : Int)), (.int .i64 (((((X20.1 * 65536) + (X29.1 * 256)) + X38.1) : Nat) : Int)), (.agg #[(.int .i64 (((((X20.1 * 65536) + (X29.1 * 256)) + X38.1) : Nat) : Int)), (.slice none 0 0)]), (.pointer (some ⟨n8, 0, none⟩)), (.int .i64 ((X54.1 : Nat) : Int)), (.int .i64 ((k : Nat) : Int)), (u57 30), (u57 31), (u57 32), (u57 33), (u57 34), (u57 35), (u57 36), (u57 37), (u57 38), (u57 39), (u57 40), (u57 41), (u57 42), (u57 43), (u57 44), (u57 45), (u57 46), (u57 47), (u57 48), (u57 49), (u57 50), (u57 51), (u57 52), (u57 53), (u57 54), (u57 55), (u57 56), undef, undef, undef, undef, undef, undef, undef, undef, undef, undef, undef, undef, undef, undef, undef, undef, undef, undef, undef, undef, undef, undef], []⟩ ∧ St w F w58 F56 [⟨n8, [(.slice ra rk.rest.length rc), (.bool rk.short)], 120⟩, ⟨n39, [(.int .i64 (((((X20.1 * 65536) + (X29.1 * 256)) + X38.1) : Nat) : Int)), v], 50⟩, ⟨n2, [(.int .i64 0), (.slice none 0 0)], 50⟩] [ownP 4 WrC WrC.mono 27 w.heap.size v acc] ∧ Le F50 F56 ∧ (k ≤ X54.1) ∧ (Bs F56 (.slice ra rk.rest.length rc) rk.rest) ∧ (rk.rest.length ≤ 4000) ∧ (wrsR X54.1 X54.2 = (acc ++ (wrsR (X54.1 - k) rk).1, (wrsR (X54.1 - k) rk).2)) ∧ (acc.length = k) ∧ (∀ z ∈ acc, Small z)) _ ⟨0, X54.2, [], (.slice none 0 0), a47, c48, F50, _, rfl, rfl, rfl, S55, Le.refl _, (by omega), r53, (by omega), (by simp), rfl, (by simp)⟩ ?_
 rintro m59 a60 w61 ⟨k, rk, acc, v, ra, rc, F56, u57, rfl, -, rfl, S62, le63, hk, hrk, hrl, hinv, hal, hsm⟩ K64 hK64
 refine wp_seq_k (fun K65 hK65 => region_wl ?_)
 by_cases hc30 : k < X54.1
 ·refine do_ rfl (.bool true) (ex_lss (m := ((k : Nat) : Int)) (n := ((X54.1 : Nat) : Int)) (b := true) rfl rfl (decide_eq_true (by omega))) ?_
  simp only [pS, pN, pA, pC, pZ]
  refine wl_nil (hK65 _ _ ?_)
  refine wp_seq_k (fun K66 hK66 => ?_)
  refine wp_cond_true rfl ?_
  refine wp_skip ?_
  refine hK66 _ _ ?_
  refine wp_seq_k (fun K67 hK67 => ?_)
  refine wp_block ?_
  refine wp_seq_k (fun K68 hK68 => region_wl ?_)
  refine do_ rfl (.pointer (some ⟨n8, 0, none⟩)) (ex_move _) ?_
  simp only [pS, pN, pA, pC, pZ]
  refine do_ rfl (.pointer (some ⟨n8, 0, none⟩)) (ex_move _) ?_
  simp only [pS, pN, pA, pC, pZ]
  have S69 := St.front S62 (i := 0) rfl
  have S69 : St w F w61 F56 [⟨n8, [(.slice ra rk.rest.length rc), (.bool rk.short)], 120⟩, ⟨n39, [(.int .i64 (((((X20.1 * 65536) + (X29.1 * 256)) + X38.1) : Nat) : Int)), v], 50⟩, ⟨n2, [(.int .i64 0), (.slice none 0 0)], 50⟩] [ownP 4 WrC WrC.mono 27 w.heap.size v acc] := S69
  refine stByte rfl (ex_fn (vs := #[(.pointer (some ⟨n8, 0, none⟩))]) (map1 rfl) rfl (ent_71 _ _)) (byte_spec (r := rk) S69 hrk (by omega)) ?_
  intro a70 c71 w72 F73 le74 S75 r76
  have hltX77 := byteR_lt rk
  have hleX77 := byteR_less rk
  generalize hX77 : byteR rk = X77 at *
  simp only [pS, pN, pA, pC, pZ]
  have S78 := St.front S75 (i := 0) rfl
  have S78 : St w F w72 F73 [⟨n8, [(.slice a70 X77.2.rest.length c71), (.bool X77.2.short)], 120⟩, ⟨n39, [(.int .i64 (((((X20.1 * 65536) + (X29.1 * 256)) + X38.1) : Nat) : Int)), v], 50⟩, ⟨n2, [(.int .i64 0), (.slice none 0 0)], 50⟩] [ownP 4 WrC WrC.mono 27 w.heap.size v acc] := S78
  refine stTake rfl (ex_fn (vs := #[(.pointer (some ⟨n8, 0, none⟩)), (.int .i64 ((X77.1 : Nat) : Int))]) (map2 rfl rfl) rfl (ent_72 _ _)) (take_spec (r := X77.2) (n := X77.1) S78 r76 (by omega) (by omega)) ?_
  intro v79 a80 c81 w82 F83 le84 S85 r86 r87
  have hlnX88 := takeR_len X77.1 X77.2
  have hleX88 := takeR_less X77.1 X77.2
  generalize hX88 : takeR X77.1 X77.2 = X88 at *
  obtain ⟨xa89, xc90, rfl, _⟩ := r87.shape
  simp only [pS, pN, pA, pC, pZ]
  refine do_ rfl (.agg #[(.slice xa89 X88.1.length xc90), (.slice none 0 0), (.bool false), (.slice none 0 0)]) (ex_build (ps := #[(0, (.slice xa89 X88.1.length xc90))]) (bmap1 rfl) (by kernel_rfl)) ?_
  simp only [pS, pN, pA, pC, pZ]
  refine stNew S85 (v := fun n => .pointer (some ⟨n, 0, none⟩)) rfl (ex_alloc (zero_27 _)) (fun n91 w92 S93 => ?_)
  simp only [pS, pN, pA, pC, pZ]
  have S93 : St w F w92 F83 [⟨n91, [(.slice none 0 0), (.slice none 0 0), (.bool false), (.slice none 0 0)], 27⟩, ⟨n8, [(.slice a80 X88.2.rest.length c81), (.bool X88.2.short)], 120⟩, ⟨n39, [(.int .i64 (((((X20.1 * 65536) + (X29.1 * 256)) + X38.1) : Nat) : Int)), v], 50⟩, ⟨n2, [(.int .i64 0), (.slice none 0 0)], 50⟩] [ownP 4 WrC WrC.mono 27 w.heap.size v acc] := S93
  refine stStore (i := 0) (v := (.agg #[(.slice xa89 X88.1.length xc90), (.slice none 0 0), (.bool false), (.slice none 0 0)])) S93 rfl rfl rfl rfl (size_27) (allc4 rfl rfl rfl rfl) (Nat.le_of_ble_eq_true rfl) (fun w94 S95 => ?_)
  simp only [pS, pN, pA, pC, pZ]
  have S95 : St w F w94 F83 [⟨n91, [(.slice xa89 X88.1.length xc90), (.slice none 0 0), (.bool false), (.slice none 0 0)], 27⟩, ⟨n8, [(.slice a80 X88.2.rest.length c81), (.bool X88.2.short)], 120⟩, ⟨n39, [(.int .i64 (((((X20.1 * 65536) + (X29.1 * 256)) + X38.1) : Nat) : Int)), v], 50⟩, ⟨n2, [(.int .i64 0), (.slice none 0 0)], 50⟩] [ownP 4 WrC WrC.mono 27 w.heap.size v acc] := S95
  refine wl_nil (hK68 _ _ ?_)
  refine wp_seq_k (fun K96 hK96 => region_wl ?_)
  refine do_ rfl (.pointer (some ⟨n8, 0, none⟩)) (ex_move _) ?_
  simp only [pS, pN, pA, pC, pZ]
  refine do_ rfl (.pointer (some ⟨n8, 0, none⟩)) (ex_move _) ?_
  simp only [pS, pN, pA, pC, pZ]
  have S97 := St.front S95 (i := 1) rfl
  have S97 : St w F w94 F83 [⟨n8, [(.slice a80 X88.2.rest.length c81), (.bool X88.2.short)], 120⟩, ⟨n91, [(.slice xa89 X88.1.length xc90), (.slice none 0 0), (.bool false), (.slice none 0 0)], 27⟩, ⟨n39, [(.int .i64 (((((X20.1 * 65536) + (X29.1 * 256)) + X38.1) : Nat) : Int)), v], 50⟩, ⟨n2, [(.int .i64 0), (.slice none 0 0)], 50⟩] [ownP 4 WrC WrC.mono 27 w.heap.size v acc] := S97
  refine stByte rfl (ex_fn (vs := #[(.pointer (some ⟨n8, 0, none⟩))]) (map1 rfl) rfl (ent_71 _ _)) (byte_spec (r := X88.2) S97 r86 (by omega)) ?_
  intro a98 c99 w100 F101 le102 S103 r104
  have hltX105 := byteR_lt X88.2
  have hleX105 := byteR_less X88.2
  generalize hX105 : byteR X88.2 = X105 at *
  simp only [pS, pN, pA, pC, pZ]
  have S106 := St.front S103 (i := 0) rfl
  have S106 : St w F w100 F101 [⟨n8, [(.slice a98 X105.2.rest.length c99), (.bool X105.2.short)], 120⟩, ⟨n91, [(.slice xa89 X88.1.length xc90), (.slice none 0 0), (.bool false), (.slice none 0 0)], 27⟩, ⟨n39, [(.int .i64 (((((X20.1 * 65536) + (X29.1 * 256)) + X38.1) : Nat) : Int)), v], 50⟩, ⟨n2, [(.int .i64 0), (.slice none 0 0)], 50⟩] [ownP 4 WrC WrC.mono 27 w.heap.size v acc] := S106
  refine stTake rfl (ex_fn (vs := #[(.pointer (some ⟨n8, 0, none⟩)), (.int .i64 ((X105.1 : Nat) : Int))]) (map2 rfl rfl) rfl (ent_72 _ _)) (take_spec (r := X105.2) (n := X105.1) S106 r104 (by omega) (by omega)) ?_
  intro v107 a108 c109 w110 F111 le112 S113 r114 r115
  have hlnX116 := takeR_len X105.1 X105.2
  have hleX116 := takeR_less X105.1 X105.2
  generalize hX116 : takeR X105.1 X105.2 = X116 at *
  obtain ⟨xa117, xc118, rfl, _⟩ := r115.shape
  simp only [pS, pN, pA, pC, pZ]
  refine do_ rfl (.pointer (some ⟨n91, 1, none⟩)) (ex_field (q := ⟨n91, 1, none⟩) rfl (fa_27_1 _ _)) ?_
  simp only [pS, pN, pA, pC, pZ]
  refine stStore (i := 1) (v := (.slice xa117 X116.1.length xc118)) S113 rfl rfl rfl rfl (size_25) (allc1 rfl) (Nat.le_of_ble_eq_true rfl) (fun w119 S120 => ?_)
  simp only [pS, pN, pA, pC, pZ]
  have S120 : St w F w119 F111 [⟨n8, [(.slice a108 X116.2.rest.length c109), (.bool X116.2.short)], 120⟩, ⟨n91, [(.slice xa89 X88.1.length xc90), (.slice xa117 X116.1.length xc118), (.bool false), (.slice none 0 0)], 27⟩, ⟨n39, [(.int .i64 (((((X20.1 * 65536) + (X29.1 * 256)) + X38.1) : Nat) : Int)), v], 50⟩, ⟨n2, [(.int .i64 0), (.slice none 0 0)], 50⟩] [ownP 4 WrC WrC.mono 27 w.heap.size v acc] := S120
  refine wl_nil (hK96 _ _ ?_)
  refine wp_seq_k (fun K121 hK121 => ?_)
  refine wp_seq_k (fun K122 hK122 => region_wl ?_)
  refine do_ rfl (.pointer (some ⟨n8, 0, none⟩)) (ex_move _) ?_
  simp only [pS, pN, pA, pC, pZ]
  have S123 := St.front S120 (i := 0) rfl
  have S123 : St w F w119 F111 [⟨n8, [(.slice a108 X116.2.rest.length c109), (.bool X116.2.short)], 120⟩, ⟨n91, [(.slice xa89 X88.1.length xc90), (.slice xa117 X116.1.length xc118), (.bool false), (.slice none 0 0)], 27⟩, ⟨n39, [(.int .i64 (((((X20.1 * 65536) + (X29.1 * 256)) + X38.1) : Nat) : Int)), v], 50⟩, ⟨n2, [(.int .i64 0), (.slice none 0 0)], 50⟩] [ownP 4 WrC WrC.mono 27 w.heap.size v acc] := S123
  refine stByte rfl (ex_fn (vs := #[(.pointer (some ⟨n8, 0, none⟩))]) (map1 rfl) rfl (ent_71 _ _)) (byte_spec (r := X116.2) S123 r114 (by omega)) ?_
  intro a124 c125 w126 F127 le128 S129 r130
  have hltX131 := byteR_lt X116.2
  have hleX131 := byteR_less X116.2
  generalize hX131 : byteR X116.2 = X131 at *
  simp only [pS, pN, pA, pC, pZ]
  refine do_ rfl (.int .i64 ((X131.1 : Nat) : Int)) (ex_assign _) ?_
  simp only [pS, pN, pA, pC, pZ]
  refine wl_nil (hK122 _ _ ?_)
  refine wp_seq_k (fun K132 hK132 => region_wl ?_)
  refine do_ rfl (.int .i64 ((X131.1 : Nat) : Int)) (ex_move _) ?_
  simp only [pS, pN, pA, pC, pZ]
  by_cases hc44 : X131.1 = 255
  ·refine do_ rfl (.bool true) (ex_eql (m := ((X131.1 : Nat) : Int)) (n := (255 : Int)) (b := true) rfl rfl (beq_iff_eq.2 (by omega))) ?_
   simp only [pS, pN, pA, pC, pZ]
   refine wl_nil (hK132 _ _ ?_)
   refine wp_cond_true rfl ?_
   refine region_wl ?_
   refine do_ rfl (.pointer (some ⟨n91, 2, none⟩)) (ex_field (q := ⟨n91, 2, none⟩) rfl (fa_27_2 _ _)) ?_
   simp only [pS, pN, pA, pC, pZ]
   refine stStore (i := 1) (v := (.bool true)) S129 rfl rfl rfl rfl (size_4) (allc1 rfl) (Nat.le_of_ble_eq_true rfl) (fun w133 S134 => ?_)
   simp only [pS, pN, pA, pC, pZ]
   have S134 : St w F w133 F127 [⟨n8, [(.slice a124 X131.2.rest.length c125), (.bool X131.2.short)], 120⟩, ⟨n91, [(.slice xa89 X88.1.length xc90), (.slice xa117 X116.1.length xc118), (.bool true), (.slice none 0 0)], 27⟩, ⟨n39, [(.int .i64 (((((X20.1 * 65536) + (X29.1 * 256)) + X38.1) : Nat) : Int)), v], 50⟩, ⟨n2, [(.int .i64 0), (.slice none 0 0)], 50⟩] [ownP 4 WrC WrC.mono 27 w.heap.size v acc] := S134
   refine wl_nil (hK121 _ _ ?_)
   refine region_wl ?_
   refine do_ rfl (.pointer (some ⟨n39, 1, none⟩)) (ex_field (q := ⟨n39, 1, none⟩) rfl (fa_50_1 _ _)) ?_
   simp only [pS, pN, pA, pC, pZ]
   refine do_ rfl v (ex_load rfl (load1 (nagg_44 _) (St.cell S134 (i := 2) rfl rfl))) ?_
   simp only [pS, pN, pA, pC, pZ]
   refine do_ rfl (.agg #[(.slice xa89 X88.1.length xc90), (.slice xa117 X116.1.length xc118), (.bool true), (.slice none 0 0)]) (ex_load rfl (loadN (cs := [(.slice xa89 X88.1.length xc90), (.slice xa117 X116.1.length xc118), (.bool true), (.slice none 0 0)]) Try.underlying27 rfl (size_27) (St.range S134 (i := 1) rfl 0 [(.slice xa89 X88.1.length xc90), (.slice xa117 X116.1.length xc118), (.bool true), (.slice none 0 0)] (sub_range 0 rfl)))) ?_
   simp only [pS, pN, pA, pC, pZ]
   refine stNew S134 (v := fun n => .slice (some ⟨n, 0, none⟩) 1 1) rfl (ex_lit (ps := #[(0, (.agg #[(.slice xa89 X88.1.length xc90), (.slice xa117 X116.1.length xc118), (.bool true), (.slice none 0 0)]))]) (cells := #[(.slice xa89 X88.1.length xc90), (.slice xa117 X116.1.length xc118), (.bool true), (.slice none 0 0)]) (E := 27) (bmap1 rfl) (fun w => by kernel_rfl)) (fun n135 w136 S137 => ?_)
   simp only [pS, pN, pA, pC, pZ]
   have S137 : St w F w136 F127 [⟨n135, [(.slice xa89 X88.1.length xc90), (.slice xa117 X116.1.length xc118), (.bool true), (.slice none 0 0)], 27⟩, ⟨n8, [(.slice a124 X131.2.rest.length c125), (.bool X131.2.short)], 120⟩, ⟨n91, [(.slice xa89 X88.1.length xc90), (.slice xa117 X116.1.length xc118), (.bool true), (.slice none 0 0)], 27⟩, ⟨n39, [(.int .i64 (((((X20.1 * 65536) + (X29.1 * 256)) + X38.1) : Nat) : Int)), v], 50⟩, ⟨n2, [(.int .i64 0), (.slice none 0 0)], 50⟩] [ownP 4 WrC WrC.mono 27 w.heap.size v acc] := S137
   refine stPush (i := 0) (r := 0) (p := (⟨X88.1, X116.1, true, []⟩ : Wr)) (cs := [(.slice xa89 X88.1.length xc90), (.slice xa117 X116.1.length xc118), (.bool true), (.slice none 0 0)]) S137 rfl i27 (.agg #[(.slice none 0 0), (.slice none 0 0), (.bool false), (.slice none 0 0)]) 80 Try.underlying44 hi27 hz27 hs27 hb27 rfl (by decide) rfl rfl rfl rfl rfl (WrC.oneCell (p := (⟨X88.1, X116.1, true, []⟩ : Wr)) ⟨_, _, _, _, rfl, (r87.mono ((le102.trans le112).trans le128)), (r115.mono le128), rfl, Bs.nil _⟩) (⟨_, _, _, _, rfl, (r87.mono ((le102.trans le112).trans le128)), (r115.mono le128), rfl, Bs.nil _⟩) (Nat.le_refl _) S137.gr.below.size (by unfold maxLen; omega) (by omega) ?_
   intro v138 w139 S140 hn141
   simp only [pS, pN, pA, pC, pZ]
   have S140 := St.drop S140 (L' := [⟨n8, [(.slice a124 X131.2.rest.length c125), (.bool X131.2.short)], 120⟩, ⟨n91, [(.slice xa89 X88.1.length xc90), (.slice xa117 X116.1.length xc118), (.bool true), (.slice none 0 0)], 27⟩, ⟨n39, [(.int .i64 (((((X20.1 * 65536) + (X29.1 * 256)) + X38.1) : Nat) : Int)), v], 50⟩, ⟨n2, [(.int .i64 0), (.slice none 0 0)], 50⟩]) (.cons _ (List.Sublist.refl _))
   have S140 : St w F w139 F127 [⟨n8, [(.slice a124 X131.2.rest.length c125), (.bool X131.2.short)], 120⟩, ⟨n91, [(.slice xa89 X88.1.length xc90), (.slice xa117 X116.1.length xc118), (.bool true), (.slice none 0 0)], 27⟩, ⟨n39, [(.int .i64 (((((X20.1 * 65536) + (X29.1 * 256)) + X38.1) : Nat) : Int)), v], 50⟩, ⟨n2, [(.int .i64 0), (.slice none 0 0)], 50⟩] [ownP 4 WrC WrC.mono 27 w.heap.size v138 (acc ++ [(⟨X88.1, X116.1, true, []⟩ : Wr)])] := S140
   obtain ⟨a142, cap143, rfl, h144, h145⟩ := (S140.own (i := 0) rfl).shape
   unfold maxLen at h145
   refine do_ rfl (.pointer (some ⟨n39, 1, none⟩)) (ex_field (q := ⟨n39, 1, none⟩) rfl (fa_50_1 _ _)) ?_
   simp only [pS, pN, pA, pC, pZ]
   refine stStore (i := 2) (v := (.slice a142 (acc ++ [(⟨X88.1, X116.1, true, []⟩ : Wr)]).length cap143)) S140 rfl rfl rfl rfl (size_44) (allc1 rfl) (Nat.le_of_ble_eq_true rfl) (fun w146 S147 => ?_)
   simp only [pS, pN, pA, pC, pZ]
   have S147 : St w F w146 F127 [⟨n8, [(.slice a124 X131.2.rest.length c125), (.bool X131.2.short)], 120⟩, ⟨n91, [(.slice xa89 X88.1.length xc90), (.slice xa117 X116.1.length xc118), (.bool true), (.slice none 0 0)], 27⟩, ⟨n39, [(.int .i64 (((((X20.1 * 65536) + (X29.1 * 256)) + X38.1) : Nat) : Int)), (.slice a142 (acc ++ [(⟨X88.1, X116.1, true, []⟩ : Wr)]).length cap143)], 50⟩, ⟨n2, [(.int .i64 0), (.slice none 0 0)], 50⟩] [ownP 4 WrC WrC.mono 27 w.heap.size (.slice a142 (acc ++ [(⟨X88.1, X116.1, true, []⟩ : Wr)]).length cap143) (acc ++ [(⟨X88.1, X116.1, true, []⟩ : Wr)])] := S147
   refine wl_nil (hK67 _ _ ?_)
   have S148 := St.front S147 (i := 3) rfl
   have S148 : St w F w146 F127 [⟨n2, [(.int .i64 0), (.slice none 0 0)], 50⟩, ⟨n8, [(.slice a124 X131.2.rest.length c125), (.bool X131.2.short)], 120⟩, ⟨n91, [(.slice xa89 X88.1.length xc90), (.slice xa117 X116.1.length xc118), (.bool true), (.slice none 0 0)], 27⟩, ⟨n39, [(.int .i64 (((((X20.1 * 65536) + (X29.1 * 256)) + X38.1) : Nat) : Int)), (.slice a142 (acc ++ [(⟨X88.1, X116.1, true, []⟩ : Wr)]).length cap143)], 50⟩] [ownP 4 WrC WrC.mono 27 w.heap.size (.slice a142 (acc ++ [(⟨X88.1, X116.1, true, []⟩ : Wr)]).length cap143) (acc ++ [(⟨X88.1, X116.1, true, []⟩ : Wr)])] := S148
   have S149 := St.front S148 (i := 3) rfl
   have S149 : St w F w146 F127 [⟨n39, [(.int .i64 (((((X20.1 * 65536) + (X29.1 * 256)) + X38.1) : Nat) : Int)), (.slice a142 (acc ++ [(⟨X88.1, X116.1, true, []⟩ : Wr)]).length cap143)], 50⟩, ⟨n2, [(.int .i64 0), (.slice none 0 0)], 50⟩, ⟨n8, [(.slice a124 X131.2.rest.length c125), (.bool X131.2.short)], 120⟩, ⟨n91, [(.slice xa89 X88.1.length xc90), (.slice xa117 X116.1.length xc118), (.bool true), (.slice none 0 0)], 27⟩] [ownP 4 WrC WrC.mono 27 w.heap.size (.slice a142 (acc ++ [(⟨X88.1, X116.1, true, []⟩ : Wr)]).length cap143) (acc ++ [(⟨X88.1, X116.1, true, []⟩ : Wr)])] := S149
   have S150 := St.front S149 (i := 2) rfl
   have S150 : St w F w146 F127 [⟨n8, [(.slice a124 X131.2.rest.length c125), (.bool X131.2.short)], 120⟩, ⟨n39, [(.int .i64 (((((X20.1 * 65536) + (X29.1 * 256)) + X38.1) : Nat) : Int)), (.slice a142 (acc ++ [(⟨X88.1, X116.1, true, []⟩ : Wr)]).length cap143)], 50⟩, ⟨n2, [(.int .i64 0), (.slice none 0 0)], 50⟩, ⟨n91, [(.slice xa89 X88.1.length xc90), (.slice xa117 X116.1.length xc118), (.bool true), (.slice none 0 0)], 27⟩] [ownP 4 WrC WrC.mono 27 w.heap.size (.slice a142 (acc ++ [(⟨X88.1, X116.1, true, []⟩ : Wr)]).length cap143) (acc ++ [(⟨X88.1, X116.1, true, []⟩ : Wr)])] := S150
   have S151 := St.front S150 (i := 3) rfl
   have S151 : St w F w146 F127 [⟨n91, [(.slice xa89 X88.1.length xc90), (.slice xa117 X116.1.length xc118), (.bool true), (.slice none 0 0)], 27⟩, ⟨n8, [(.slice a124 X131.2.rest.length c125), (.bool X131.2.short)], 120⟩, ⟨n39, [(.int .i64 (((((X20.1 * 65536) + (X29.1 * 256)) + X38.1) : Nat) : Int)), (.slice a142 (acc ++ [(⟨X88.1, X116.1, true, []⟩ : Wr)]).length cap143)], 50⟩, ⟨n2, [(.int .i64 0), (.slice none 0 0)], 50⟩] [ownP 4 WrC WrC.mono 27 w.heap.size (.slice a142 (acc ++ [(⟨X88.1, X116.1, true, []⟩ : Wr)]).length cap143) (acc ++ [(⟨X88.1, X116.1, true, []⟩ : Wr)])] := S151
   refine region_wl ?_
   refine do_ rfl (.int .i64 (((k + 1) : Nat) : Int)) (ex_add (m := ((k : Nat) : Int)) (n := (1 : Int)) (r := (((k + 1) : Nat) : Int)) rfl rfl (by omega) (by omega) (by omega)) ?_
   simp only [pS, pN, pA, pC, pZ]
   refine do_ rfl (.int .i64 (((k + 1) : Nat) : Int)) (ex_move _) ?_
   simp only [pS, pN, pA, pC, pZ]
   refine wl_nil ?_
   have S151 := St.drop S151 (L' := [⟨n8, [(.slice a124 X131.2.rest.length c125), (.bool X131.2.short)], 120⟩, ⟨n39, [(.int .i64 (((((X20.1 * 65536) + (X29.1 * 256)) + X38.1) : Nat) : Int)), (.slice a142 (acc ++ [(⟨X88.1, X116.1, true, []⟩ : Wr)]).length cap143)], 50⟩, ⟨n2, [(.int .i64 0), (.slice none 0 0)], 50⟩]) (.cons _ (List.Sublist.refl _))
   have hwr : wrR rk = ((⟨X88.1, X116.1, true, []⟩ : Wr), X131.2) := by unfold wrR partR; simp only [hX77, hX88, hX105, hX116, hX131]; rw [if_pos (by omega)]
   exact hK64 _ _ _ (by omega) ⟨(k + 1), X131.2, (acc ++ [(⟨X88.1, X116.1, true, []⟩ : Wr)]), (.slice a142 (acc ++ [(⟨X88.1, X116.1, true, []⟩ : Wr)]).length cap143), a124, c125, F127, _, rfl, rfl, rfl, S151, (((((le63.trans le74).trans le84).trans le102).trans le112).trans le128), (by omega), r130, (by omega), (wrs_step hinv (by omega) hwr), (by simp; omega), (by intro z hz; rcases List.mem_append.1 hz with hz | hz; exact hsm z hz; rw [List.mem_singleton.1 hz]; exact ⟨by show X88.1.length ≤ _; omega, by show X116.1.length ≤ _; omega, by simp⟩)⟩
  ·refine do_ rfl (.bool false) (ex_eql (m := ((X131.1 : Nat) : Int)) (n := (255 : Int)) (b := false) rfl rfl (beq_eq_false_iff_ne.2 (by omega))) ?_
   simp only [pS, pN, pA, pC, pZ]
   refine wl_nil (hK132 _ _ ?_)
   refine wp_cond_false rfl ?_
   refine region_wl ?_
   refine do_ rfl (.pointer (some ⟨n8, 0, none⟩)) (ex_move _) ?_
   simp only [pS, pN, pA, pC, pZ]
   refine do_ rfl (.int .i64 ((X131.1 : Nat) : Int)) (ex_move _) ?_
   simp only [pS, pN, pA, pC, pZ]
   have S152 := St.front S129 (i := 0) rfl
   have S152 : St w F w126 F127 [⟨n8, [(.slice a124 X131.2.rest.length c125), (.bool X131.2.short)], 120⟩, ⟨n91, [(.slice xa89 X88.1.length xc90), (.slice xa117 X116.1.length xc118), (.bool false), (.slice none 0 0)], 27⟩, ⟨n39, [(.int .i64 (((((X20.1 * 65536) + (X29.1 * 256)) + X38.1) : Nat) : Int)), v], 50⟩, ⟨n2, [(.int .i64 0), (.slice none 0 0)], 50⟩] [ownP 4 WrC WrC.mono 27 w.heap.size v acc] := S152
   refine stTake rfl (ex_fn (vs := #[(.pointer (some ⟨n8, 0, none⟩)), (.int .i64 ((X131.1 : Nat) : Int))]) (map2 rfl rfl) rfl (ent_72 _ _)) (take_spec (r := X131.2) (n := X131.1) S152 r130 (by omega) (by omega)) ?_
   intro v153 a154 c155 w156 F157 le158 S159 r160 r161
   have hlnX162 := takeR_len X131.1 X131.2
   have hleX162 := takeR_less X131.1 X131.2
   generalize hX162 : takeR X131.1 X131.2 = X162 at *
   obtain ⟨xa163, xc164, rfl, _⟩ := r161.shape
   simp only [pS, pN, pA, pC, pZ]
   refine do_ rfl (.pointer (some ⟨n91, 3, none⟩)) (ex_field (q := ⟨n91, 3, none⟩) rfl (fa_27_3 _ _)) ?_
   simp only [pS, pN, pA, pC, pZ]
   refine stStore (i := 1) (v := (.slice xa163 X162.1.length xc164)) S159 rfl rfl rfl rfl (size_25) (allc1 rfl) (Nat.le_of_ble_eq_true rfl) (fun w165 S166 => ?_)
   simp only [pS, pN, pA, pC, pZ]
   have S166 : St w F w165 F157 [⟨n8, [(.slice a154 X162.2.rest.length c155), (.bool X162.2.short)], 120⟩, ⟨n91, [(.slice xa89 X88.1.length xc90), (.slice xa117 X116.1.length xc118), (.bool false), (.slice xa163 X162.1.length xc164)], 27⟩, ⟨n39, [(.int .i64 (((((X20.1 * 65536) + (X29.1 * 256)) + X38.1) : Nat) : Int)), v], 50⟩, ⟨n2, [(.int .i64 0), (.slice none 0 0)], 50⟩] [ownP 4 WrC WrC.mono 27 w.heap.size v acc] := S166
   refine wl_nil (hK121 _ _ ?_)
   refine region_wl ?_
   refine do_ rfl (.pointer (some ⟨n39, 1, none⟩)) (ex_field (q := ⟨n39, 1, none⟩) rfl (fa_50_1 _ _)) ?_
   simp only [pS, pN, pA, pC, pZ]
   refine do_ rfl v (ex_load rfl (load1 (nagg_44 _) (St.cell S166 (i := 2) rfl rfl))) ?_
   simp only [pS, pN, pA, pC, pZ]
   refine do_ rfl (.agg #[(.slice xa89 X88.1.length xc90), (.slice xa117 X116.1.length xc118), (.bool false), (.slice xa163 X162.1.length xc164)]) (ex_load rfl (loadN (cs := [(.slice xa89 X88.1.length xc90), (.slice xa117 X116.1.length xc118), (.bool false), (.slice xa163 X162.1.length xc164)]) Try.underlying27 rfl (size_27) (St.range S166 (i := 1) rfl 0 [(.slice xa89 X88.1.length xc90), (.slice xa117 X116.1.length xc118), (.bool false), (.slice xa163 X162.1.length xc164)] (sub_range 0 rfl)))) ?_
   simp only [pS, pN, pA, pC, pZ]
   refine stNew S166 (v := fun n => .slice (some ⟨n, 0, none⟩) 1 1) rfl (ex_lit (ps := #[(0, (.agg #[(.slice xa89 X88.1.length xc90), (.slice xa117 X116.1.length xc118), (.bool false), (.slice xa163 X162.1.length xc164)]))]) (cells := #[(.slice xa89 X88.1.length xc90), (.slice xa117 X116.1.length xc118), (.bool false), (.slice xa163 X162.1.length xc164)]) (E := 27) (bmap1 rfl) (fun w => by kernel_rfl)) (fun n167 w168 S169 => ?_)
   simp only [pS, pN, pA, pC, pZ]
   have S169 : St w F w168 F157 [⟨n167, [(.slice xa89 X88.1.length xc90), (.slice xa117 X116.1.length xc118), (.bool false), (.slice xa163 X162.1.length xc164)], 27⟩, ⟨n8, [(.slice a154 X162.2.rest.length c155), (.bool X162.2.short)], 120⟩, ⟨n91, [(.slice xa89 X88.1.length xc90), (.slice xa117 X116.1.length xc118), (.bool false), (.slice xa163 X162.1.length xc164)], 27⟩, ⟨n39, [(.int .i64 (((((X20.1 * 65536) + (X29.1 * 256)) + X38.1) : Nat) : Int)), v], 50⟩, ⟨n2, [(.int .i64 0), (.slice none 0 0)], 50⟩] [ownP 4 WrC WrC.mono 27 w.heap.size v acc] := S169
   refine stPush (i := 0) (r := 0) (p := (⟨X88.1, X116.1, false, X162.1⟩ : Wr)) (cs := [(.slice xa89 X88.1.length xc90), (.slice xa117 X116.1.length xc118), (.bool false), (.slice xa163 X162.1.length xc164)]) S169 rfl i27 (.agg #[(.slice none 0 0), (.slice none 0 0), (.bool false), (.slice none 0 0)]) 80 Try.underlying44 hi27 hz27 hs27 hb27 rfl (by decide) rfl rfl rfl rfl rfl (WrC.oneCell (p := (⟨X88.1, X116.1, false, X162.1⟩ : Wr)) ⟨_, _, _, _, rfl, (r87.mono (((le102.trans le112).trans le128).trans le158)), (r115.mono (le128.trans le158)), rfl, r161⟩) (⟨_, _, _, _, rfl, (r87.mono (((le102.trans le112).trans le128).trans le158)), (r115.mono (le128.trans le158)), rfl, r161⟩) (Nat.le_refl _) S169.gr.below.size (by unfold maxLen; omega) (by omega) ?_
   intro v170 w171 S172 hn173
   simp only [pS, pN, pA, pC, pZ]
   have S172 := St.drop S172 (L' := [⟨n8, [(.slice a154 X162.2.rest.length c155), (.bool X162.2.short)], 120⟩, ⟨n91, [(.slice xa89 X88.1.length xc90), (.slice xa117 X116.1.length xc118), (.bool false), (.slice xa163 X162.1.length xc164)], 27⟩, ⟨n39, [(.int .i64 (((((X20.1 * 65536) + (X29.1 * 256)) + X38.1) : Nat) : Int)), v], 50⟩, ⟨n2, [(.int .i64 0), (.slice none 0 0)], 50⟩]) (.cons _ (List.Sublist.refl _))
   have S172 : St w F w171 F157 [⟨n8, [(.slice a154 X162.2.rest.length c155), (.bool X162.2.short)], 120⟩, ⟨n91, [(.slice xa89 X88.1.length xc90), (.slice xa117 X116.1.length xc118), (.bool false), (.slice xa163 X162.1.length xc164)], 27⟩, ⟨n39, [(.int .i64 (((((X20.1 * 65536) + (X29.1 * 256)) + X38.1) : Nat) : Int)), v], 50⟩, ⟨n2, [(.int .i64 0), (.slice none 0 0)], 50⟩] [ownP 4 WrC WrC.mono 27 w.heap.size v170 (acc ++ [(⟨X88.1, X116.1, false, X162.1⟩ : Wr)])] := S172
   obtain ⟨a174, cap175, rfl, h176, h177⟩ := (S172.own (i := 0) rfl).shape
   unfold maxLen at h177
   refine do_ rfl (.pointer (some ⟨n39, 1, none⟩)) (ex_field (q := ⟨n39, 1, none⟩) rfl (fa_50_1 _ _)) ?_
   simp only [pS, pN, pA, pC, pZ]
   refine stStore (i := 2) (v := (.slice a174 (acc ++ [(⟨X88.1, X116.1, false, X162.1⟩ : Wr)]).length cap175)) S172 rfl rfl rfl rfl (size_44) (allc1 rfl) (Nat.le_of_ble_eq_true rfl) (fun w178 S179 => ?_)
   simp only [pS, pN, pA, pC, pZ]
   have S179 : St w F w178 F157 [⟨n8, [(.slice a154 X162.2.rest.length c155), (.bool X162.2.short)], 120⟩, ⟨n91, [(.slice xa89 X88.1.length xc90), (.slice xa117 X116.1.length xc118), (.bool false), (.slice xa163 X162.1.length xc164)], 27⟩, ⟨n39, [(.int .i64 (((((X20.1 * 65536) + (X29.1 * 256)) + X38.1) : Nat) : Int)), (.slice a174 (acc ++ [(⟨X88.1, X116.1, false, X162.1⟩ : Wr)]).length cap175)], 50⟩, ⟨n2, [(.int .i64 0), (.slice none 0 0)], 50⟩] [ownP 4 WrC WrC.mono 27 w.heap.size (.slice a174 (acc ++ [(⟨X88.1, X116.1, false, X162.1⟩ : Wr)]).length cap175) (acc ++ [(⟨X88.1, X116.1, false, X162.1⟩ : Wr)])] := S179
   refine wl_nil (hK67 _ _ ?_)
   have S180 := St.front S179 (i := 3) rfl
   have S180 : St w F w178 F157 [⟨n2, [(.int .i64 0), (.slice none 0 0)], 50⟩, ⟨n8, [(.slice a154 X162.2.rest.length c155), (.bool X162.2.short)], 120⟩, ⟨n91, [(.slice xa89 X88.1.length xc90), (.slice xa117 X116.1.length xc118), (.bool false), (.slice xa163 X162.1.length xc164)], 27⟩, ⟨n39, [(.int .i64 (((((X20.1 * 65536) + (X29.1 * 256)) + X38.1) : Nat) : Int)), (.slice a174 (acc ++ [(⟨X88.1, X116.1, false, X162.1⟩ : Wr)]).length cap175)], 50⟩] [ownP 4 WrC WrC.mono 27 w.heap.size (.slice a174 (acc ++ [(⟨X88.1, X116.1, false, X162.1⟩ : Wr)]).length cap175) (acc ++ [(⟨X88.1, X116.1, false, X162.1⟩ : Wr)])] := S180
   have S181 := St.front S180 (i := 3) rfl
   have S181 : St w F w178 F157 [⟨n39, [(.int .i64 (((((X20.1 * 65536) + (X29.1 * 256)) + X38.1) : Nat) : Int)), (.slice a174 (acc ++ [(⟨X88.1, X116.1, false, X162.1⟩ : Wr)]).length cap175)], 50⟩, ⟨n2, [(.int .i64 0), (.slice none 0 0)], 50⟩, ⟨n8, [(.slice a154 X162.2.rest.length c155), (.bool X162.2.short)], 120⟩, ⟨n91, [(.slice xa89 X88.1.length xc90), (.slice xa117 X116.1.length xc118), (.bool false), (.slice xa163 X162.1.length xc164)], 27⟩] [ownP 4 WrC WrC.mono 27 w.heap.size (.slice a174 (acc ++ [(⟨X88.1, X116.1, false, X162.1⟩ : Wr)]).length cap175) (acc ++ [(⟨X88.1, X116.1, false, X162.1⟩ : Wr)])] := S181
   have S182 := St.front S181 (i := 2) rfl
   have S182 : St w F w178 F157 [⟨n8, [(.slice a154 X162.2.rest.length c155), (.bool X162.2.short)], 120⟩, ⟨n39, [(.int .i64 (((((X20.1 * 65536) + (X29.1 * 256)) + X38.1) : Nat) : Int)), (.slice a174 (acc ++ [(⟨X88.1, X116.1, false, X162.1⟩ : Wr)]).length cap175)], 50⟩, ⟨n2, [(.int .i64 0), (.slice none 0 0)], 50⟩, ⟨n91, [(.slice xa89 X88.1.length xc90), (.slice xa117 X116.1.length xc118), (.bool false), (.slice xa163 X162.1.length xc164)], 27⟩] [ownP 4 WrC WrC.mono 27 w.heap.size (.slice a174 (acc ++ [(⟨X88.1, X116.1, false, X162.1⟩ : Wr)]).length cap175) (acc ++ [(⟨X88.1, X116.1, false, X162.1⟩ : Wr)])] := S182
   have S183 := St.front S182 (i := 3) rfl
   have S183 : St w F w178 F157 [⟨n91, [(.slice xa89 X88.1.length xc90), (.slice xa117 X116.1.length xc118), (.bool false), (.slice xa163 X162.1.length xc164)], 27⟩, ⟨n8, [(.slice a154 X162.2.rest.length c155), (.bool X162.2.short)], 120⟩, ⟨n39, [(.int .i64 (((((X20.1 * 65536) + (X29.1 * 256)) + X38.1) : Nat) : Int)), (.slice a174 (acc ++ [(⟨X88.1, X116.1, false, X162.1⟩ : Wr)]).length cap175)], 50⟩, ⟨n2, [(.int .i64 0), (.slice none 0 0)], 50⟩] [ownP 4 WrC WrC.mono 27 w.heap.size (.slice a174 (acc ++ [(⟨X88.1, X116.1, false, X162.1⟩ : Wr)]).length cap175) (acc ++ [(⟨X88.1, X116.1, false, X162.1⟩ : Wr)])] := S183
   refine region_wl ?_
   refine do_ rfl (.int .i64 (((k + 1) : Nat) : Int)) (ex_add (m := ((k : Nat) : Int)) (n := (1 : Int)) (r := (((k + 1) : Nat) : Int)) rfl rfl (by omega) (by omega) (by omega)) ?_
   simp only [pS, pN, pA, pC, pZ]
   refine do_ rfl (.int .i64 (((k + 1) : Nat) : Int)) (ex_move _) ?_
   simp only [pS, pN, pA, pC, pZ]
   refine wl_nil ?_
   have S183 := St.drop S183 (L' := [⟨n8, [(.slice a154 X162.2.rest.length c155), (.bool X162.2.short)], 120⟩, ⟨n39, [(.int .i64 (((((X20.1 * 65536) + (X29.1 * 256)) + X38.1) : Nat) : Int)), (.slice a174 (acc ++ [(⟨X88.1, X116.1, false, X162.1⟩ : Wr)]).length cap175)], 50⟩, ⟨n2, [(.int .i64 0), (.slice none 0 0)], 50⟩]) (.cons _ (List.Sublist.refl _))
   have hwr : wrR rk = ((⟨X88.1, X116.1, false, X162.1⟩ : Wr), X162.2) := by unfold wrR partR; simp only [hX77, hX88, hX105, hX116, hX131]; rw [if_neg (by omega), hX162]
   exact hK64 _ _ _ (by omega) ⟨(k + 1), X162.2, (acc ++ [(⟨X88.1, X116.1, false, X162.1⟩ : Wr)]), (.slice a174 (acc ++ [(⟨X88.1, X116.1, false, X162.1⟩ : Wr)]).length cap175), a154, c155, F157, _, rfl, rfl, rfl, S183, ((((((le63.trans le74).trans le84).trans le102).trans le112).trans le128).trans le158), (by omega), r160, (by omega), (wrs_step hinv (by omega) hwr), (by simp; omega), (by intro z hz; rcases List.mem_append.1 hz with hz | hz; exact hsm z hz; rw [List.mem_singleton.1 hz]; exact ⟨by show X88.1.length ≤ _; omega, by show X116.1.length ≤ _; omega, by show X162.1.length ≤ _; omega⟩)⟩
 ·refine do_ rfl (.bool false) (ex_lss (m := ((k : Nat) : Int)) (n := ((X54.1 : Nat) : Int)) (b := false) rfl rfl (decide_eq_false (by omega))) ?_
  simp only [pS, pN, pA, pC, pZ]
  refine wl_nil (hK65 _ _ ?_)
  refine wp_seq_k (fun K184 hK184 => ?_)
  refine wp_cond_false rfl ?_
  refine wp_exit ?_
  refine hK44 _ _ ?_
  refine wp_seq_k (fun K185 hK185 => ?_)
  refine wp_seq_k (fun K186 hK186 => ?_)
  have hend := wrs_end hinv (by omega)
  have hD : cmR ⟨b, false⟩ = (((((X20.1 * 65536) + (X29.1 * 256)) + X38.1), acc), rk) := by unfold cmR; simp only [hX20, hX29, hX38, hX54]; rw [hend]
  obtain ⟨a187, cap188, rfl, h189, h190⟩ := (S62.own (i := 0) rfl).shape
  unfold maxLen at h190
  obtain ⟨F191, S192, le193, hv194⟩ := St.freeze S62 (i := 0) rfl (Nat.le_refl _)
  have S192 : St w F w61 F191 [⟨n8, [(.slice ra rk.rest.length rc), (.bool rk.short)], 120⟩, ⟨n39, [(.int .i64 (((((X20.1 * 65536) + (X29.1 * 256)) + X38.1) : Nat) : Int)), (.slice a187 acc.length cap188)], 50⟩, ⟨n2, [(.int .i64 0), (.slice none 0 0)], 50⟩] [] := S192
  have hv194 : Wrs _ (.slice a187 acc.length cap188) acc := hv194
  refine region_wl ?_
  refine do_ rfl (.agg #[(.int .i64 (((((X20.1 * 65536) + (X29.1 * 256)) + X38.1) : Nat) : Int)), (.slice a187 acc.length cap188)]) (ex_load rfl (loadN (cs := [(.int .i64 (((((X20.1 * 65536) + (X29.1 * 256)) + X38.1) : Nat) : Int)), (.slice a187 acc.length cap188)]) Try.underlying50 rfl (size_50) (St.range S192 (i := 1) rfl 0 [(.int .i64 (((((X20.1 * 65536) + (X29.1 * 256)) + X38.1) : Nat) : Int)), (.slice a187 acc.length cap188)] (sub_range 0 rfl)))) ?_
  simp only [pS, pN, pA, pC, pZ]
  have hE : decE b = if rk.short = true then 14 else if 0 < rk.rest.length then 4 else tapeE (⟨(((X20.1 * 65536) + (X29.1 * 256)) + X38.1), acc⟩ : Cm) := by unfold decE; rw [hD]
  refine stTells (v := (.int .i64 (tapeE (⟨(((X20.1 * 65536) + (X29.1 * 256)) + X38.1), acc⟩ : Cm)))) S192 rfl (ex_fn (vs := #[(.agg #[(.int .i64 (((((X20.1 * 65536) + (X29.1 * 256)) + X38.1) : Nat) : Int)), (.slice a187 acc.length cap188)])]) (map1 rfl) rfl (ent_40 _ _)) (tapeCheck_spec _ _ _ (⟨(((X20.1 * 65536) + (X29.1 * 256)) + X38.1), acc⟩ : Cm) (S192).sat ⟨_, _, rfl, hv194⟩ hsm) (fun w195 S196 => ?_)
  simp only [pS, pN, pA, pC, pZ]
  refine do_ rfl (.int .i64 (tapeE (⟨(((X20.1 * 65536) + (X29.1 * 256)) + X38.1), acc⟩ : Cm))) (ex_assign _) ?_
  simp only [pS, pN, pA, pC, pZ]
  refine wl_nil (hK186 _ _ ?_)
  refine wp_block ?_
  refine wp_seq_k (fun K197 hK197 => region_wl ?_)
  refine do_ rfl (.pointer (some ⟨n8, 0, none⟩)) (ex_move _) ?_
  simp only [pS, pN, pA, pC, pZ]
  refine do_ rfl (.pointer (some ⟨n8, 0, none⟩)) (ex_nil rfl) ?_
  simp only [pS, pN, pA, pC, pZ]
  refine do_ rfl (.pointer (some ⟨n8, 1, none⟩)) (ex_field (q := ⟨n8, 1, none⟩) rfl (fa_120_1 _ _)) ?_
  simp only [pS, pN, pA, pC, pZ]
  refine do_ rfl (.bool rk.short) (ex_load rfl (load1 (nagg_4 _) (St.cell S196 (i := 0) rfl rfl))) ?_
  simp only [pS, pN, pA, pC, pZ]
  refine do_ rfl (.bool rk.short) (ex_assign _) ?_
  simp only [pS, pN, pA, pC, pZ]
  refine wl_nil (hK197 _ _ ?_)
  refine wp_cond_split rfl (fun hsh => ?_) (fun hsh => ?_)
  ·refine wp_seq_k (fun K198 hK198 => region_wl ?_)
   refine do_ rfl (.agg #[(.int .i64 0), (.slice none 0 0)]) (ex_build (ps := #[]) (bmap0) (by kernel_rfl)) ?_
   simp only [pS, pN, pA, pC, pZ]
   refine stStore (i := 2) (v := (.agg #[(.int .i64 0), (.slice none 0 0)])) S196 rfl rfl rfl rfl (size_50) (allc2 rfl rfl) (Nat.le_of_ble_eq_true rfl) (fun w199 S200 => ?_)
   simp only [pS, pN, pA, pC, pZ]
   have S200 : St w F w199 F191 [⟨n8, [(.slice ra rk.rest.length rc), (.bool rk.short)], 120⟩, ⟨n39, [(.int .i64 (((((X20.1 * 65536) + (X29.1 * 256)) + X38.1) : Nat) : Int)), (.slice a187 acc.length cap188)], 50⟩, ⟨n2, [(.int .i64 0), (.slice none 0 0)], 50⟩] [] := S200
   refine do_ rfl (.int .i64 14) (ex_assign _) ?_
   simp only [pS, pN, pA, pC, pZ]
   refine wl_nil (hK198 _ _ ?_)
   refine wp_ret ?_
   (try simp only [Exit.then, Exit.inBlock, ↓reduceIte, Nat.reduceEqDiff])
   refine bodyPost_ret (v := (.tuple #[(.agg #[(.int .i64 0), (.slice none 0 0)]), (.int .i64 14)])) ?_ rfl ?_
   ·exact res_ct rfl ⟨_, rfl, loadN (cs := [(.int .i64 0), (.slice none 0 0)]) Try.underlying50 rfl (size_50) (St.range S200 (i := 2) rfl 0 [(.int .i64 0), (.slice none 0 0)] (sub_range 0 rfl))⟩ rfl
   ·have he : decE b = 14 := by rw [hE, if_pos hsh]
    have hC : decC b = ⟨0, []⟩ := by unfold decC; rw [if_neg (by rw [he]; decide)]
    rw [he, hC]
    exact ⟨_, _, rfl, S200.gr, _, rfl, none, 0, rfl, Sl.nil _ _ _⟩
  ·refine wp_seq_k (fun K201 hK201 => region_wl ?_)
   refine do_ rfl (.pointer (some ⟨n8, 0, none⟩)) (ex_move _) ?_
   simp only [pS, pN, pA, pC, pZ]
   refine do_ rfl (.pointer (some ⟨n8, 0, none⟩)) (ex_nil rfl) ?_
   simp only [pS, pN, pA, pC, pZ]
   refine do_ rfl (.pointer (some ⟨n8, 0, none⟩)) (ex_field (q := ⟨n8, 0, none⟩) rfl (fa_120_0 _ _)) ?_
   simp only [pS, pN, pA, pC, pZ]
   refine do_ rfl (.slice ra rk.rest.length rc) (ex_load rfl (load1 (nagg_25 _) (St.cell S196 (i := 0) rfl rfl))) ?_
   simp only [pS, pN, pA, pC, pZ]
   refine do_ rfl (.int .i64 ((rk.rest.length : Nat) : Int)) (ex_len Try.underlying25 rfl) ?_
   simp only [pS, pN, pA, pC, pZ]
   by_cases hc71 : 0 < rk.rest.length
   ·refine do_ rfl (.bool true) (ex_gtr (m := ((rk.rest.length : Nat) : Int)) (n := (0 : Int)) (b := true) rfl rfl (decide_eq_true (by omega))) ?_
    simp only [pS, pN, pA, pC, pZ]
    refine do_ rfl (.bool true) (ex_assign _) ?_
    simp only [pS, pN, pA, pC, pZ]
    refine wl_nil (hK201 _ _ ?_)
    refine wp_cond_true rfl ?_
    refine wp_seq_k (fun K202 hK202 => region_wl ?_)
    refine do_ rfl (.agg #[(.int .i64 0), (.slice none 0 0)]) (ex_build (ps := #[]) (bmap0) (by kernel_rfl)) ?_
    simp only [pS, pN, pA, pC, pZ]
    refine stStore (i := 2) (v := (.agg #[(.int .i64 0), (.slice none 0 0)])) S196 rfl rfl rfl rfl (size_50) (allc2 rfl rfl) (Nat.le_of_ble_eq_true rfl) (fun w203 S204 => ?_)
    simp only [pS, pN, pA, pC, pZ]
    have S204 : St w F w203 F191 [⟨n8, [(.slice ra rk.rest.length rc), (.bool rk.short)], 120⟩, ⟨n39, [(.int .i64 (((((X20.1 * 65536) + (X29.1 * 256)) + X38.1) : Nat) : Int)), (.slice a187 acc.length cap188)], 50⟩, ⟨n2, [(.int .i64 0), (.slice none 0 0)], 50⟩] [] := S204
    refine do_ rfl (.int .i64 4) (ex_assign _) ?_
    simp only [pS, pN, pA, pC, pZ]
    refine wl_nil (hK202 _ _ ?_)
    refine wp_ret ?_
    (try simp only [Exit.then, Exit.inBlock, ↓reduceIte, Nat.reduceEqDiff])
    refine bodyPost_ret (v := (.tuple #[(.agg #[(.int .i64 0), (.slice none 0 0)]), (.int .i64 4)])) ?_ rfl ?_
    ·exact res_ct rfl ⟨_, rfl, loadN (cs := [(.int .i64 0), (.slice none 0 0)]) Try.underlying50 rfl (size_50) (St.range S204 (i := 2) rfl 0 [(.int .i64 0), (.slice none 0 0)] (sub_range 0 rfl))⟩ rfl
    ·have he : decE b = 4 := by rw [hE, if_neg (by simpa using hsh), if_pos (by omega)]
     have hC : decC b = ⟨0, []⟩ := by unfold decC; rw [if_neg (by rw [he]; decide)]
     rw [he, hC]
     exact ⟨_, _, rfl, S204.gr, _, rfl, none, 0, rfl, Sl.nil _ _ _⟩
   ·refine do_ rfl (.bool false) (ex_gtr (m := ((rk.rest.length : Nat) : Int)) (n := (0 : Int)) (b := false) rfl rfl (decide_eq_false (by omega))) ?_
    simp only [pS, pN, pA, pC, pZ]
    refine do_ rfl (.bool false) (ex_assign _) ?_
    simp only [pS, pN, pA, pC, pZ]
    refine wl_nil (hK201 _ _ ?_)
    refine wp_cond_false rfl ?_
    refine wp_seq_k (fun K205 hK205 => region_wl ?_)
    refine do_ rfl (.int .i64 (tapeE (⟨(((X20.1 * 65536) + (X29.1 * 256)) + X38.1), acc⟩ : Cm))) (ex_move _) ?_
    simp only [pS, pN, pA, pC, pZ]
    by_cases hc75 : (tapeE (⟨(((X20.1 * 65536) + (X29.1 * 256)) + X38.1), acc⟩ : Cm)) = (0 : Int)
    ·refine do_ rfl (.bool false) (ex_neq (m := (tapeE (⟨(((X20.1 * 65536) + (X29.1 * 256)) + X38.1), acc⟩ : Cm))) (n := (0 : Int)) (b := false) rfl rfl (bne_eq_false_iff_eq.2 (by omega))) ?_
     simp only [pS, pN, pA, pC, pZ]
     refine do_ rfl (.bool false) (ex_assign _) ?_
     simp only [pS, pN, pA, pC, pZ]
     refine wl_nil (hK205 _ _ ?_)
     refine wp_cond_false rfl ?_
     refine wp_skip ?_
     refine hK185 _ _ ?_
     refine wp_seq_k (fun K206 hK206 => region_wl ?_)
     refine do_ rfl (.agg #[(.int .i64 (((((X20.1 * 65536) + (X29.1 * 256)) + X38.1) : Nat) : Int)), (.slice a187 acc.length cap188)]) (ex_load rfl (loadN (cs := [(.int .i64 (((((X20.1 * 65536) + (X29.1 * 256)) + X38.1) : Nat) : Int)), (.slice a187 acc.length cap188)]) Try.underlying50 rfl (size_50) (St.range S196 (i := 1) rfl 0 [(.int .i64 (((((X20.1 * 65536) + (X29.1 * 256)) + X38.1) : Nat) : Int)), (.slice a187 acc.length cap188)] (sub_range 0 rfl)))) ?_
     simp only [pS, pN, pA, pC, pZ]
     refine stStore (i := 2) (v := (.agg #[(.int .i64 (((((X20.1 * 65536) + (X29.1 * 256)) + X38.1) : Nat) : Int)), (.slice a187 acc.length cap188)])) S196 rfl rfl rfl rfl (size_50) (allc2 rfl rfl) (Nat.le_of_ble_eq_true rfl) (fun w207 S208 => ?_)
     simp only [pS, pN, pA, pC, pZ]
     have S208 : St w F w207 F191 [⟨n8, [(.slice ra rk.rest.length rc), (.bool rk.short)], 120⟩, ⟨n39, [(.int .i64 (((((X20.1 * 65536) + (X29.1 * 256)) + X38.1) : Nat) : Int)), (.slice a187 acc.length cap188)], 50⟩, ⟨n2, [(.int .i64 (((((X20.1 * 65536) + (X29.1 * 256)) + X38.1) : Nat) : Int)), (.slice a187 acc.length cap188)], 50⟩] [] := S208
     refine do_ rfl (.int .i64 0) (ex_assign _) ?_
     simp only [pS, pN, pA, pC, pZ]
     refine wl_nil (hK206 _ _ ?_)
     refine wp_ret ?_
     (try simp only [Exit.then, Exit.inBlock, ↓reduceIte, Nat.reduceEqDiff])
     refine bodyPost_ret (v := (.tuple #[(.agg #[(.int .i64 (((((X20.1 * 65536) + (X29.1 * 256)) + X38.1) : Nat) : Int)), (.slice a187 acc.length cap188)]), (.int .i64 0)])) ?_ rfl ?_
     ·exact res_ct rfl ⟨_, rfl, loadN (cs := [(.int .i64 (((((X20.1 * 65536) + (X29.1 * 256)) + X38.1) : Nat) : Int)), (.slice a187 acc.length cap188)]) Try.underlying50 rfl (size_50) (St.range S208 (i := 2) rfl 0 [(.int .i64 (((((X20.1 * 65536) + (X29.1 * 256)) + X38.1) : Nat) : Int)), (.slice a187 acc.length cap188)] (sub_range 0 rfl))⟩ rfl
     ·have he : decE b = 0 := by rw [hE, if_neg (by simpa using hsh), if_neg (by omega), show tapeE (⟨(((X20.1 * 65536) + (X29.1 * 256)) + X38.1), acc⟩ : Cm) = 0 from by omega]
      have hC : decC b = (⟨(((X20.1 * 65536) + (X29.1 * 256)) + X38.1), acc⟩ : Cm) := by unfold decC; rw [if_pos he, hD]
      rw [he, hC]
      exact ⟨_, _, rfl, S208.gr, _, rfl, _, _, rfl, hv194⟩
    ·refine do_ rfl (.bool true) (ex_neq (m := (tapeE (⟨(((X20.1 * 65536) + (X29.1 * 256)) + X38.1), acc⟩ : Cm))) (n := (0 : Int)) (b := true) rfl rfl (bne_iff_ne.2 (by omega))) ?_
     simp only [pS, pN, pA, pC, pZ]
     refine do_ rfl (.bool true) (ex_assign _) ?_
     simp only [pS, pN, pA, pC, pZ]
     refine wl_nil (hK205 _ _ ?_)
     refine wp_cond_true rfl ?_
     refine wp_seq_k (fun K209 hK209 => region_wl ?_)
     refine do_ rfl (.agg #[(.int .i64 0), (.slice none 0 0)]) (ex_build (ps := #[]) (bmap0) (by kernel_rfl)) ?_
     simp only [pS, pN, pA, pC, pZ]
     refine do_ rfl (.int .i64 (tapeE (⟨(((X20.1 * 65536) + (X29.1 * 256)) + X38.1), acc⟩ : Cm))) (ex_move _) ?_
     simp only [pS, pN, pA, pC, pZ]
     refine stStore (i := 2) (v := (.agg #[(.int .i64 0), (.slice none 0 0)])) S196 rfl rfl rfl rfl (size_50) (allc2 rfl rfl) (Nat.le_of_ble_eq_true rfl) (fun w210 S211 => ?_)
     simp only [pS, pN, pA, pC, pZ]
     have S211 : St w F w210 F191 [⟨n8, [(.slice ra rk.rest.length rc), (.bool rk.short)], 120⟩, ⟨n39, [(.int .i64 (((((X20.1 * 65536) + (X29.1 * 256)) + X38.1) : Nat) : Int)), (.slice a187 acc.length cap188)], 50⟩, ⟨n2, [(.int .i64 0), (.slice none 0 0)], 50⟩] [] := S211
     refine do_ rfl (.int .i64 (tapeE (⟨(((X20.1 * 65536) + (X29.1 * 256)) + X38.1), acc⟩ : Cm))) (ex_assign _) ?_
     simp only [pS, pN, pA, pC, pZ]
     refine wl_nil (hK209 _ _ ?_)
     refine wp_ret ?_
     (try simp only [Exit.then, Exit.inBlock, ↓reduceIte, Nat.reduceEqDiff])
     refine bodyPost_ret (v := (.tuple #[(.agg #[(.int .i64 0), (.slice none 0 0)]), (.int .i64 (tapeE (⟨(((X20.1 * 65536) + (X29.1 * 256)) + X38.1), acc⟩ : Cm)))])) ?_ rfl ?_
     ·exact res_ct rfl ⟨_, rfl, loadN (cs := [(.int .i64 0), (.slice none 0 0)]) Try.underlying50 rfl (size_50) (St.range S211 (i := 2) rfl 0 [(.int .i64 0), (.slice none 0 0)] (sub_range 0 rfl))⟩ rfl
     ·have he : decE b = tapeE (⟨(((X20.1 * 65536) + (X29.1 * 256)) + X38.1), acc⟩ : Cm) := by rw [hE, if_neg (by simpa using hsh), if_neg (by omega)]
      have hC : decC b = ⟨0, []⟩ := by unfold decC; rw [if_neg (by rw [he]; omega)]
      rw [he, hC]
      exact ⟨_, _, rfl, S211.gr, _, rfl, none, 0, rfl, Sl.nil _ _ _⟩
end Go.Proofs.Ytcpngkkconalhaa
namespace Go.Proofs.Ytcpngkkconalhaa
open Go.RowKit
set_option maxRecDepth 100000
set_option linter.unusedVariables false
set_option linter.unusedSimpArgs false
set_option maxHeartbeats 8000000 in
theorem sameWriteT_is (F : Fz) (w : World) (v u : Value) (p : Wr) (hs : Sat w F) (hv : WrV F v p) (hu : WrV F u p) :
    Calls Try.prog 44 #[v, u] w (Tells w (.bool true)) := by
 obtain ⟨x0, x1, x2, x3, x4, x5, rfl, h0, h1, h3⟩ := hv
 obtain ⟨y0, y1, y2, y3, y4, y5, rfl, k0, k1, k3⟩ := hu
 have S := St.start hs
 go_enter Try.func44, Try.ntmps44
 refine wp_seq_k (fun K1 hK1 => region_wl ?_)
 refine stNew S (v := fun n => .pointer (some ⟨n, 0, none⟩)) rfl (ex_box (v := (.agg #[(.slice x0 p.name.length x1), (.slice x2 p.key.length x3), (.bool p.gone), (.slice x4 p.value.length x5)])) rfl) (fun n2 w3 S4 => ?_)
 simp only [pS, pN, pA, pC, pZ]
 have S4 : St w F w3 F [⟨n2, [(.slice x0 p.name.length x1), (.slice x2 p.key.length x3), (.bool p.gone), (.slice x4 p.value.length x5)], 27⟩] [] := S4
 refine stNew S4 (v := fun n => .pointer (some ⟨n, 0, none⟩)) rfl (ex_box (v := (.agg #[(.slice y0 p.name.length y1), (.slice y2 p.key.length y3), (.bool p.gone), (.slice y4 p.value.length y5)])) rfl) (fun n5 w6 S7 => ?_)
 simp only [pS, pN, pA, pC, pZ]
 have S7 : St w F w6 F [⟨n5, [(.slice y0 p.name.length y1), (.slice y2 p.key.length y3), (.bool p.gone), (.slice y4 p.value.length y5)], 27⟩, ⟨n2, [(.slice x0 p.name.length x1), (.slice x2 p.key.length x3), (.bool p.gone), (.slice x4 p.value.length x5)], 27⟩] [] := S7
 refine do_ rfl (.bool false) (ex_assign _) ?_
 simp only [pS, pN, pA, pC, pZ]
 refine wl_nil (hK1 _ _ ?_)
 refine wp_seq_k (fun K8 hK8 => region_wl ?_)
 refine do_ rfl (.pointer (some ⟨n2, 2, none⟩)) (ex_field (q := ⟨n2, 2, none⟩) rfl (fa_27_2 _ _)) ?_
 simp only [pS, pN, pA, pC, pZ]
 refine do_ rfl (.bool p.gone) (ex_load rfl (load1 (nagg_4 _) (St.cell S7 (i := 1) rfl rfl))) ?_
 simp only [pS, pN, pA, pC, pZ]
 refine do_ rfl (.pointer (some ⟨n5, 2, none⟩)) (ex_field (q := ⟨n5, 2, none⟩) rfl (fa_27_2 _ _)) ?_
 simp only [pS, pN, pA, pC, pZ]
 refine do_ rfl (.bool p.gone) (ex_load rfl (load1 (nagg_4 _) (St.cell S7 (i := 0) rfl rfl))) ?_
 simp only [pS, pN, pA, pC, pZ]
 refine do_ rfl (.bool true) (ex_eqlB Try.underlying4 rfl rfl (beq_iff_eq.2 rfl)) ?_
 simp only [pS, pN, pA, pC, pZ]
 refine do_ rfl (.bool true) (ex_move _) ?_
 simp only [pS, pN, pA, pC, pZ]
 refine do_ rfl (.pointer (some ⟨n2, 0, none⟩)) (ex_field (q := ⟨n2, 0, none⟩) rfl (fa_27_0 _ _)) ?_
 simp only [pS, pN, pA, pC, pZ]
 refine do_ rfl (.slice x0 p.name.length x1) (ex_load rfl (load1 (nagg_25 _) (St.cell S7 (i := 1) rfl rfl))) ?_
 simp only [pS, pN, pA, pC, pZ]
 refine do_ rfl (.pointer (some ⟨n5, 0, none⟩)) (ex_field (q := ⟨n5, 0, none⟩) rfl (fa_27_0 _ _)) ?_
 simp only [pS, pN, pA, pC, pZ]
 refine do_ rfl (.slice y0 p.name.length y1) (ex_load rfl (load1 (nagg_25 _) (St.cell S7 (i := 0) rfl rfl))) ?_
 simp only [pS, pN, pA, pC, pZ]
 refine stTells (v := (.bool true)) S7 rfl (ex_fn (vs := #[(.slice x0 p.name.length x1), (.slice y0 p.name.length y1)]) (map2 rfl rfl) rfl (ent_31 _ _)) (tells_bool (tells_same (same_spec _ _ _ _ p.name p.name (S7).sat h0 k0)) (beq_iff_eq.2 (rfl))) (fun w9 S10 => ?_)
 simp only [pS, pN, pA, pC, pZ]
 refine do_ rfl (.bool true) (ex_pick (b := true) rfl) ?_
 simp only [pS, pN, pA, pC, pZ]
 refine do_ rfl (.bool true) (ex_move _) ?_
 simp only [pS, pN, pA, pC, pZ]
 refine do_ rfl (.pointer (some ⟨n2, 1, none⟩)) (ex_field (q := ⟨n2, 1, none⟩) rfl (fa_27_1 _ _)) ?_
 simp only [pS, pN, pA, pC, pZ]
 refine do_ rfl (.slice x2 p.key.length x3) (ex_load rfl (load1 (nagg_25 _) (St.cell S10 (i := 1) rfl rfl))) ?_
 simp only [pS, pN, pA, pC, pZ]
 refine do_ rfl (.pointer (some ⟨n5, 1, none⟩)) (ex_field (q := ⟨n5, 1, none⟩) rfl (fa_27_1 _ _)) ?_
 simp only [pS, pN, pA, pC, pZ]
 refine do_ rfl (.slice y2 p.key.length y3) (ex_load rfl (load1 (nagg_25 _) (St.cell S10 (i := 0) rfl rfl))) ?_
 simp only [pS, pN, pA, pC, pZ]
 refine stTells (v := (.bool true)) S10 rfl (ex_fn (vs := #[(.slice x2 p.key.length x3), (.slice y2 p.key.length y3)]) (map2 rfl rfl) rfl (ent_31 _ _)) (tells_bool (tells_same (same_spec _ _ _ _ p.key p.key (S10).sat h1 k1)) (beq_iff_eq.2 (rfl))) (fun w11 S12 => ?_)
 simp only [pS, pN, pA, pC, pZ]
 refine do_ rfl (.bool true) (ex_pick (b := true) rfl) ?_
 simp only [pS, pN, pA, pC, pZ]
 refine do_ rfl (.bool true) (ex_move _) ?_
 simp only [pS, pN, pA, pC, pZ]
 refine do_ rfl (.pointer (some ⟨n2, 3, none⟩)) (ex_field (q := ⟨n2, 3, none⟩) rfl (fa_27_3 _ _)) ?_
 simp only [pS, pN, pA, pC, pZ]
 refine do_ rfl (.slice x4 p.value.length x5) (ex_load rfl (load1 (nagg_25 _) (St.cell S12 (i := 1) rfl rfl))) ?_
 simp only [pS, pN, pA, pC, pZ]
 refine do_ rfl (.pointer (some ⟨n5, 3, none⟩)) (ex_field (q := ⟨n5, 3, none⟩) rfl (fa_27_3 _ _)) ?_
 simp only [pS, pN, pA, pC, pZ]
 refine do_ rfl (.slice y4 p.value.length y5) (ex_load rfl (load1 (nagg_25 _) (St.cell S12 (i := 0) rfl rfl))) ?_
 simp only [pS, pN, pA, pC, pZ]
 refine stTells (v := (.bool true)) S12 rfl (ex_fn (vs := #[(.slice x4 p.value.length x5), (.slice y4 p.value.length y5)]) (map2 rfl rfl) rfl (ent_31 _ _)) (tells_bool (tells_same (same_spec _ _ _ _ p.value p.value (S12).sat h3 k3)) (beq_iff_eq.2 (rfl))) (fun w13 S14 => ?_)
 simp only [pS, pN, pA, pC, pZ]
 refine do_ rfl (.bool true) (ex_pick (b := true) rfl) ?_
 simp only [pS, pN, pA, pC, pZ]
 refine do_ rfl (.bool true) (ex_assign _) ?_
 simp only [pS, pN, pA, pC, pZ]
 refine wl_nil (hK8 _ _ ?_)
 refine wp_ret ?_
 (try simp only [Exit.then, Exit.inBlock, ↓reduceIte, Nat.reduceEqDiff])
 refine bodyPost_ret (v := (.bool true)) ?_ rfl ?_
 ·exact res_t rfl rfl
 ·exact ⟨rfl, S14.gr.below⟩
set_option maxHeartbeats 8000000 in
theorem sameCommit_is (F : Fz) (w : World) (v u : Value) (m : Cm) (hs : Sat w F) (hv : CmV F v m) (hu : CmV F u m) :
    Calls Try.prog 39 #[v, u] w (Tells w (.bool true)) := by
 obtain ⟨x1, y1, rfl, h1⟩ := hv
 obtain ⟨_, _, e1, q2, q3⟩ := Sl.shape h1
 injection e1 with _ _ e1
 subst e1
 unfold maxLen at q3
 obtain ⟨x2, y2, rfl, h2⟩ := hu
 have S := St.start hs
 go_enter Try.func39, Try.ntmps39
 refine wp_seq_k (fun K1 hK1 => region_wl ?_)
 refine stNew S (v := fun n => .pointer (some ⟨n, 0, none⟩)) rfl (ex_box (v := (.agg #[(.int .i64 ((m.turn : Nat) : Int)), (.slice x1 m.writes.length y1)])) rfl) (fun n2 w3 S4 => ?_)
 simp only [pS, pN, pA, pC, pZ]
 have S4 : St w F w3 F [⟨n2, [(.int .i64 ((m.turn : Nat) : Int)), (.slice x1 m.writes.length y1)], 50⟩] [] := S4
 refine stNew S4 (v := fun n => .pointer (some ⟨n, 0, none⟩)) rfl (ex_box (v := (.agg #[(.int .i64 ((m.turn : Nat) : Int)), (.slice x2 m.writes.length y2)])) rfl) (fun n5 w6 S7 => ?_)
 simp only [pS, pN, pA, pC, pZ]
 have S7 : St w F w6 F [⟨n5, [(.int .i64 ((m.turn : Nat) : Int)), (.slice x2 m.writes.length y2)], 50⟩, ⟨n2, [(.int .i64 ((m.turn : Nat) : Int)), (.slice x1 m.writes.length y1)], 50⟩] [] := S7
 refine do_ rfl (.bool false) (ex_assign _) ?_
 simp only [pS, pN, pA, pC, pZ]
 refine wl_nil (hK1 _ _ ?_)
 refine wp_seq_k (fun K8 hK8 => ?_)
 refine wp_seq_k (fun K9 hK9 => region_wl ?_)
 refine do_ rfl (.pointer (some ⟨n2, 0, none⟩)) (ex_field (q := ⟨n2, 0, none⟩) rfl (fa_50_0 _ _)) ?_
 simp only [pS, pN, pA, pC, pZ]
 refine do_ rfl (.int .i64 ((m.turn : Nat) : Int)) (ex_load rfl (load1 (nagg_3 _) (St.cell S7 (i := 1) rfl rfl))) ?_
 simp only [pS, pN, pA, pC, pZ]
 refine do_ rfl (.pointer (some ⟨n5, 0, none⟩)) (ex_field (q := ⟨n5, 0, none⟩) rfl (fa_50_0 _ _)) ?_
 simp only [pS, pN, pA, pC, pZ]
 refine do_ rfl (.int .i64 ((m.turn : Nat) : Int)) (ex_load rfl (load1 (nagg_3 _) (St.cell S7 (i := 0) rfl rfl))) ?_
 simp only [pS, pN, pA, pC, pZ]
 refine do_ rfl (.bool false) (ex_neq (m := ((m.turn : Nat) : Int)) (n := ((m.turn : Nat) : Int)) (b := false) rfl rfl (bne_eq_false_iff_eq.2 (rfl))) ?_
 simp only [pS, pN, pA, pC, pZ]
 refine do_ rfl (.bool false) (ex_move _) ?_
 simp only [pS, pN, pA, pC, pZ]
 refine do_ rfl (.pointer (some ⟨n2, 1, none⟩)) (ex_field (q := ⟨n2, 1, none⟩) rfl (fa_50_1 _ _)) ?_
 simp only [pS, pN, pA, pC, pZ]
 refine do_ rfl (.slice x1 m.writes.length y1) (ex_load rfl (load1 (nagg_44 _) (St.cell S7 (i := 1) rfl rfl))) ?_
 simp only [pS, pN, pA, pC, pZ]
 refine do_ rfl (.int .i64 ((m.writes.length : Nat) : Int)) (ex_len Try.underlying44 rfl) ?_
 simp only [pS, pN, pA, pC, pZ]
 refine do_ rfl (.pointer (some ⟨n5, 1, none⟩)) (ex_field (q := ⟨n5, 1, none⟩) rfl (fa_50_1 _ _)) ?_
 simp only [pS, pN, pA, pC, pZ]
 refine do_ rfl (.slice x2 m.writes.length y2) (ex_load rfl (load1 (nagg_44 _) (St.cell S7 (i := 0) rfl rfl))) ?_
 simp only [pS, pN, pA, pC, pZ]
 refine do_ rfl (.int .i64 ((m.writes.length : Nat) : Int)) (ex_len Try.underlying44 rfl) ?_
 simp only [pS, pN, pA, pC, pZ]
 refine do_ rfl (.bool false) (ex_neq (m := ((m.writes.length : Nat) : Int)) (n := ((m.writes.length : Nat) : Int)) (b := false) rfl rfl (bne_eq_false_iff_eq.2 (rfl))) ?_
 simp only [pS, pN, pA, pC, pZ]
 refine do_ rfl (.bool false) (ex_pick (b := false) rfl) ?_
 simp only [pS, pN, pA, pC, pZ]
 refine wl_nil (hK9 _ _ ?_)
 refine wp_cond_false rfl ?_
 refine wp_skip ?_
 refine hK8 _ _ ?_
 refine wp_seq_k (fun K10 hK10 => ?_)
 refine wp_seq_k (fun K11 hK11 => region_wl ?_)
 refine do_ rfl (.int .i64 0) (ex_assign _) ?_
 simp only [pS, pN, pA, pC, pZ]
 refine wl_nil (hK11 _ _ ?_)
 refine wp_block ?_
 refine wp_loop_g (fun mm aa w13 => ∃ (k : Nat) (u12 : Nat → Value), mm = m.writes.length - k ∧ u12 = slots aa ∧ aa = ⟨#[(.agg #[(.int .i64 ((m.turn : Nat) : Int)), (.slice x1 m.writes.length y1)]), (.agg #[(.int .i64 ((m.turn : Nat) : Int)), (.slice x2 m.writes.length y2)]), (.pointer (some ⟨n2, 0, none⟩)), (.pointer (some ⟨n5, 0, none⟩)), (u12 4), (.int .i64 ((k : Nat) : Int)), (.pointer (some ⟨n2, 0, none⟩)), (.int .i64 ((m.turn : Nat) : Int)), (.pointer (some ⟨n5, 0, none⟩)), (.int .i64 ((m.turn : Nat) : Int)), (.bool false), (.bool false), (.pointer (some ⟨n2, 1, none⟩)), (.slice x1 m.writes.length y1), (.int .i64 ((m.writes.length : Nat) : Int)), (.pointer (some ⟨n5, 1, none⟩)), (.slice x2 m.writes.length y2), (.int .i64 ((m.writes.length : Nat) : Int)), (.bool false), (.bool false), (u12 20), (u12 21), (u12 22), (u12 23), (u12 24), (u12 25), (u12 26), (u12 27), (u12 28), (u12 29), (u12 30), (u12 31), (u12 32), (u12 33), (u12 34), (u12 35), (u12 36), (u12 37), (u12 38)], []⟩ ∧ St w F w13 F [⟨n5, [(.int .i64 ((m.turn : Nat) : Int)), (.slice x2 m.writes.length y2)], 50⟩, ⟨n2, [(.int .i64 ((m.turn : Nat) : Int)), (.slice x1 m.writes.length y1)], 50⟩] [] ∧ (k ≤ m.writes.length)) _ ⟨0, _, rfl, rfl, rfl, S7, (by omega)⟩ ?_
 rintro m14 a15 w16 ⟨k, u12, rfl, -, rfl, S17, hk⟩ K19 hK19
 refine wp_seq_k (fun K20 hK20 => ?_)
 refine wp_seq_k (fun K21 hK21 => region_wl ?_)
 refine do_ rfl (.int .i64 ((k : Nat) : Int)) (ex_move _) ?_
 simp only [pS, pN, pA, pC, pZ]
 refine do_ rfl (.pointer (some ⟨n2, 1, none⟩)) (ex_field (q := ⟨n2, 1, none⟩) rfl (fa_50_1 _ _)) ?_
 simp only [pS, pN, pA, pC, pZ]
 refine do_ rfl (.slice x1 m.writes.length y1) (ex_load rfl (load1 (nagg_44 _) (St.cell S17 (i := 1) rfl rfl))) ?_
 simp only [pS, pN, pA, pC, pZ]
 refine do_ rfl (.int .i64 ((m.writes.length : Nat) : Int)) (ex_len Try.underlying44 rfl) ?_
 simp only [pS, pN, pA, pC, pZ]
 by_cases hc24 : k < m.writes.length
 ·refine do_ rfl (.bool true) (ex_lss (m := ((k : Nat) : Int)) (n := ((m.writes.length : Nat) : Int)) (b := true) rfl rfl (decide_eq_true (by omega))) ?_
  simp only [pS, pN, pA, pC, pZ]
  refine wl_nil (hK21 _ _ ?_)
  refine wp_cond_true rfl ?_
  refine wp_skip ?_
  refine hK20 _ _ ?_
  refine wp_seq_k (fun K22 hK22 => ?_)
  refine wp_block ?_
  refine wp_seq_k (fun K23 hK23 => ?_)
  obtain ⟨p, hp⟩ : ∃ p, m.writes[k]? = some p := ⟨m.writes[k], List.getElem?_eq_getElem hc24⟩
  obtain ⟨b24, o25, ha26, xa28, xc29, xa32, xc33, xa37, xc38, c27, c31, c35, c36, r30, r34, r39⟩ := Wrs.get h1 hp
  obtain ⟨b40, o41, ha42, xa44, xc45, xa48, xc49, xa53, xc54, c43, c47, c51, c52, r46, r50, r55⟩ := Wrs.get h2 hp
  refine region_gw F 10 [] (by kernel_rfl) (by kernel_rfl) ?_
  simp only [List.take_succ_cons, List.take_zero]
  refine gw_pure rfl rfl (.pointer (some ⟨n2, 1, none⟩)) (fun w56 hCw56 => pureAt_of (ex_field (q := ⟨n2, 1, none⟩) rfl (fa_50_1 _ _))) ?_
  simp only [pS, pN, pA, pC, pZ]
  refine gw_pure rfl rfl (.slice x1 m.writes.length y1) (fun w56 hCw56 => pureAt_of (ex_load rfl (load1 (nagg_44 _) (St.cell (St.tells S17 hCw56) (i := 1) rfl rfl)))) ?_
  simp only [pS, pN, pA, pC, pZ]
  refine gw_pure rfl rfl (.int .i64 ((k : Nat) : Int)) (fun w56 hCw56 => pureAt_of (ex_move _)) ?_
  simp only [pS, pN, pA, pC, pZ]
  refine gw_pure rfl rfl (.pointer (some ⟨b24, o25 + k * 4, none⟩)) (fun w56 hCw56 => pureAt_of (ex_at (i := k) (sz := 4) Try.underlying44 (sizeof_27 _) rfl ha26 rfl (by omega) rfl)) ?_
  simp only [pS, pN, pA, pC, pZ]
  refine gw_pure rfl rfl (.agg #[(.slice xa28 p.name.length xc29), (.slice xa32 p.key.length xc33), (.bool p.gone), (.slice xa37 p.value.length xc38)]) (fun w56 hCw56 => pureAt_of (ex_load rfl (loadN (cs := [(.slice xa28 p.name.length xc29), (.slice xa32 p.key.length xc33), (.bool p.gone), (.slice xa37 p.value.length xc38)]) Try.underlying27 rfl (size_27) (range4 (St.fz (St.tells S17 hCw56) c27) (St.fz (St.tells S17 hCw56) c31) (St.fz (St.tells S17 hCw56) c35) (St.fz (St.tells S17 hCw56) c36))))) ?_
  simp only [pS, pN, pA, pC, pZ]
  refine gw_pure rfl rfl (.pointer (some ⟨n5, 1, none⟩)) (fun w56 hCw56 => pureAt_of (ex_field (q := ⟨n5, 1, none⟩) rfl (fa_50_1 _ _))) ?_
  simp only [pS, pN, pA, pC, pZ]
  refine gw_pure rfl rfl (.slice x2 m.writes.length y2) (fun w56 hCw56 => pureAt_of (ex_load rfl (load1 (nagg_44 _) (St.cell (St.tells S17 hCw56) (i := 0) rfl rfl)))) ?_
  simp only [pS, pN, pA, pC, pZ]
  refine gw_pure rfl rfl (.int .i64 ((k : Nat) : Int)) (fun w56 hCw56 => pureAt_of (ex_move _)) ?_
  simp only [pS, pN, pA, pC, pZ]
  refine gw_pure rfl rfl (.pointer (some ⟨b40, o41 + k * 4, none⟩)) (fun w56 hCw56 => pureAt_of (ex_at (i := k) (sz := 4) Try.underlying44 (sizeof_27 _) rfl ha42 rfl (by omega) rfl)) ?_
  simp only [pS, pN, pA, pC, pZ]
  refine gw_pure rfl rfl (.agg #[(.slice xa44 p.name.length xc45), (.slice xa48 p.key.length xc49), (.bool p.gone), (.slice xa53 p.value.length xc54)]) (fun w56 hCw56 => pureAt_of (ex_load rfl (loadN (cs := [(.slice xa44 p.name.length xc45), (.slice xa48 p.key.length xc49), (.bool p.gone), (.slice xa53 p.value.length xc54)]) Try.underlying27 rfl (size_27) (range4 (St.fz (St.tells S17 hCw56) c43) (St.fz (St.tells S17 hCw56) c47) (St.fz (St.tells S17 hCw56) c51) (St.fz (St.tells S17 hCw56) c52))))) ?_
  simp only [pS, pN, pA, pC, pZ]
  refine gw_nil ?_
  intro w57 hC59 hF60
  clear hF60
  have S58 := St.tells S17 hC59
  simp only [List.drop_succ_cons, List.drop_zero]
  refine stTells (v := (.bool true)) S58 rfl (ex_fn (vs := #[(.agg #[(.slice xa28 p.name.length xc29), (.slice xa32 p.key.length xc33), (.bool p.gone), (.slice xa37 p.value.length xc38)]), (.agg #[(.slice xa44 p.name.length xc45), (.slice xa48 p.key.length xc49), (.bool p.gone), (.slice xa53 p.value.length xc54)])]) (map2 rfl rfl) rfl (ent_44 _ _)) (sameWriteT_is _ _ _ _ p (S58).sat ⟨_, _, _, _, _, _, rfl, r30, r34, r39⟩ ⟨_, _, _, _, _, _, rfl, r46, r50, r55⟩) (fun w61 S62 => ?_)
  simp only [pS, pN, pA, pC, pZ]
  refine do_ rfl (.bool false) (ex_not (b := true) rfl rfl) ?_
  simp only [pS, pN, pA, pC, pZ]
  refine wl_nil (hK23 _ _ ?_)
  refine wp_cond_false rfl ?_
  refine wp_skip ?_
  refine hK22 _ _ ?_
  refine region_wl ?_
  refine do_ rfl (.int .i64 ((k : Nat) : Int)) (ex_move _) ?_
  simp only [pS, pN, pA, pC, pZ]
  refine do_ rfl (.int .i64 (((k + 1) : Nat) : Int)) (ex_add (m := ((k : Nat) : Int)) (n := (1 : Int)) (r := (((k + 1) : Nat) : Int)) rfl rfl (by omega) (by omega) (by omega)) ?_
  simp only [pS, pN, pA, pC, pZ]
  refine do_ rfl (.int .i64 (((k + 1) : Nat) : Int)) (ex_assign _) ?_
  simp only [pS, pN, pA, pC, pZ]
  refine wl_nil ?_
  exact hK19 _ _ _ (by omega) ⟨(k + 1), _, rfl, rfl, rfl, S62, (by omega)⟩
 ·refine do_ rfl (.bool false) (ex_lss (m := ((k : Nat) : Int)) (n := ((m.writes.length : Nat) : Int)) (b := false) rfl rfl (decide_eq_false (by omega))) ?_
  simp only [pS, pN, pA, pC, pZ]
  refine wl_nil (hK21 _ _ ?_)
  refine wp_cond_false rfl ?_
  refine wp_exit ?_
  refine hK10 _ _ ?_
  refine wp_seq_k (fun K63 hK63 => region_wl ?_)
  refine do_ rfl (.bool true) (ex_assign _) ?_
  simp only [pS, pN, pA, pC, pZ]
  refine wl_nil (hK63 _ _ ?_)
  refine wp_ret ?_
  (try simp only [Exit.then, Exit.inBlock, ↓reduceIte, Nat.reduceEqDiff])
  refine bodyPost_ret (v := (.bool true)) ?_ rfl ?_
  ·exact res_t rfl rfl
  ·exact ⟨rfl, S17.gr.below⟩
theorem decodeIs_spec (F : Fz) (w : World) (v : Value) (b : By) {e : Int} {m : Cm} (hs : Sat w F) (hb : Bs F v b) (hl : b.length ≤ 4000) (he : decE b = e) (hm : decC b = m) :
    Calls Try.prog 38 #[v] w (Gives w F (DecR m e)) := by
  subst he; subst hm; exact decode_spec F w v b hs hb hl
theorem encCm_len {m : Cm} (hm : CmOk m) : (encCm m.turn m.writes).length ≤ 594 ∧ 4 ≤ (encCm m.turn m.writes).length := by
  have := enc_len hm.ok
  have := hm.some.2
  rw [encCm_head, List.length_append, show (encHead m.turn m.writes.length).length = 4 from rfl]
  omega
theorem dec_back {m : Cm} (hm : CmOk m) : decE (encCm m.turn m.writes) = 0 ∧ decC (encCm m.turn m.writes) = m := by
  have ht := hm.turn
  have hs := hm.some
  have h := cmR_enc m.turn m.writes [] hm.ok (by omega) (by omega)
  rw [List.append_nil] at h
  have he : decE (encCm m.turn m.writes) = 0 := by
    unfold decE
    rw [h, if_neg (by simp), if_neg (by simp)]
    exact tapeE_ok.2 hm
  exact ⟨he, by unfold decC; rw [if_pos he, h]⟩
theorem dec_more {m : Cm} (hm : CmOk m) : decE (encCm m.turn m.writes ++ [0]) = 4 ∧ decC (encCm m.turn m.writes ++ [0]) = ⟨0, []⟩ := by
  have ht := hm.turn
  have hs := hm.some
  have h := cmR_enc m.turn m.writes [0] hm.ok (by omega) (by omega)
  have he : decE (encCm m.turn m.writes ++ [0]) = 4 := by
    unfold decE
    rw [h, if_neg (by simp), if_pos (by simp)]
  exact ⟨he, by unfold decC; rw [if_neg (by rw [he]; decide)]⟩
theorem dec_torn {m : Cm} (hm : CmOk m) {k : Nat} (hk : k < (encCm m.turn m.writes).length) : decE ((encCm m.turn m.writes).take k) = 14 ∧ decC ((encCm m.turn m.writes).take k) = ⟨0, []⟩ := by
  have ht := hm.turn
  have hs := hm.some
  have h := cmR_torn m.turn m.writes k hm.ok (by omega) (by omega) hk
  have he : decE ((encCm m.turn m.writes).take k) = 14 := by unfold decE; rw [if_pos h]
  exact ⟨he, by unfold decC; rw [if_neg (by rw [he]; decide)]⟩
end Go.Proofs.Ytcpngkkconalhaa
