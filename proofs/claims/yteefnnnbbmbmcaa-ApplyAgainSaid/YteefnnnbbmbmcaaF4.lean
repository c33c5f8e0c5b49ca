/- Walks: forest.Apply, Get, Range -/
import Derived.Test.YteefnnnbbmbmcaaF3
namespace Go.Proofs.Yteefnnnbbmbmcaa
open Go.RowKit
set_option maxRecDepth 100000
set_option linter.unusedVariables false
set_option linter.unusedSimpArgs false
def TnsE (r : Forest) (e : Int) (F : Fz) (u : Value) : Prop := ∃ x, u = .tuple #[x, .int .i64 e] ∧ Tns F x r
theorem applyR_cons (f : Forest) (x : Wr) (ws : List Wr) : applyR f (x :: ws) = if wrE x ≠ 0 then (wrE x, []) else match writeF f x with | none => (11, []) | some g => applyR g ws := rfl
theorem applyR_snoc : ∀ {ws : List Wr} {f : Forest} {w : Wr}, (applyR f ws).1 = 0 → applyR f (ws ++ [w]) = applyR (applyR f ws).2 [w]
  | [], f, w, _ => rfl
  | x :: ws, f, w, h => by
    rw [applyR_cons] at h
    rw [List.cons_append, applyR_cons f x (ws ++ [w]), applyR_cons f x ws]
    by_cases hx : wrE x ≠ 0
    · rw [if_pos hx] at h; exact absurd h hx
    · rw [if_neg hx] at h
      rw [if_neg hx, if_neg hx]
      cases hw : writeF f x with
      | none => rw [hw] at h; simp at h
      | some g =>
        rw [hw] at h
        simp only at h ⊢
        exact applyR_snoc h
theorem applyR_stop : ∀ {ws us : List Wr} {f : Forest}, (applyR f ws).1 ≠ 0 → applyR f (ws ++ us) = applyR f ws
  | [], us, f, h => by simp [applyR] at h
  | x :: ws, us, f, h => by
    rw [applyR_cons] at h
    rw [List.cons_append, applyR_cons f x (ws ++ us), applyR_cons f x ws]
    by_cases hx : wrE x ≠ 0
    · rw [if_pos hx, if_pos hx]
    · rw [if_neg hx] at h
      rw [if_neg hx, if_neg hx]
      cases hw : writeF f x with
      | none => rfl
      | some g =>
        rw [hw] at h
        simp only at h ⊢
        exact applyR_stop h
theorem applyR_ok60 : ∀ {ws : List Wr} {f : Forest}, ForestOk 60 f → (applyR f ws).1 = 0 → ForestOk 60 (applyR f ws).2
  | [], f, hf, _ => hf
  | x :: ws, f, hf, h => by
    unfold applyR at h ⊢
    by_cases hx : wrE x ≠ 0
    · rw [if_pos hx] at h; exact absurd h hx
    · rw [if_neg hx] at h ⊢
      cases hw : writeF f x with
      | none => rw [hw] at h; simp at h
      | some g =>
        rw [hw] at h
        simp only at h ⊢
        exact applyR_ok60 (writeF_ok60 hf (wrE_ok.1 (Classical.not_not.1 hx)) hw) h
/-- What forest.Apply tells of so many writes. -/
def applyE (f : Forest) (ws : List Wr) : Int × Forest := if 10 < ws.length then (1, []) else applyR f ws
theorem bad_nil : ∀ {ws : List Wr} {f : Forest}, (applyR f ws).1 ≠ 0 → (applyR f ws).2 = []
  | [], f, h => by simp [applyR] at h
  | x :: ws, f, h => by
    unfold applyR at h ⊢
    by_cases hx : wrE x ≠ 0
    · rw [if_pos hx]
    · rw [if_neg hx] at h ⊢
      cases hw : writeF f x with
      | none => rfl
      | some g => rw [hw] at h; exact bad_nil h
set_option maxHeartbeats 8000000 in
theorem apply_spec (F : Fz) (w : World) (v u : Value) (l : Forest) (ws : List Wr) (hs : Sat w F) (hv : Tns F v l) (hw : Wrs F u ws) (ok1 : ForestOk 60 l) (hb : ∀ r ∈ ws, r.name.length ≤ 100000 ∧ r.key.length ≤ 100000 ∧ r.value.length ≤ 100000) :
    Calls Try.prog 59 #[v, u] w (Gives w F (TnsE (applyE l ws).2 (applyE l ws).1)) := by
  have ok := forestE_ok.2 ok1
  have hl8 := ok1.len
  obtain ⟨a, c, rfl, hc1, hc2⟩ := Sl.shape hv
  obtain ⟨a2, c2, rfl, hc3, hc4⟩ := Sl.shape hw
  unfold maxLen at hc2 hc4
  obtain ⟨i83, hi83, hz83, hs83, hb83⟩ := info_parts info_83
  have S := St.start hs
  go_enter Try.func59, Try.ntmps59
  refine wp_seq_k (fun K1 hK1 => ?_)
  refine region_wl ?_
  refine do_ rfl (.slice none 0 0) (ex_assign _) ?_
  simp only [Act.put, List.setIfInBounds_toArray, List.set_cons_succ, List.set_cons_zero]
  refine do_ rfl (.int .i64 0) (ex_assign _) ?_
  simp only [Act.put, List.setIfInBounds_toArray, List.set_cons_succ, List.set_cons_zero]
  refine wl_nil ?_
  (try simp only [Exit.then, Exit.inBlock, ↓reduceIte, Nat.reduceEqDiff])
  refine hK1 _ _ ?_
  refine wp_seq_k (fun K2 hK2 => ?_)
  refine wp_seq_k (fun K3 hK3 => ?_)
  refine region_wl ?_
  refine do_ rfl (.slice a l.length c) (ex_move _) ?_
  simp only [Act.put, List.setIfInBounds_toArray, List.set_cons_succ, List.set_cons_zero]
  refine stTells (v := (.int .i64 (forestE l))) S rfl (ex_fn (vs := #[(.slice a l.length c)]) (map1 rfl) rfl (ent_61 _ _)) (forestCheck_spec _ _ _ l (S).sat hv) (fun w4 S5 => ?_)
  simp only [Act.put, List.setIfInBounds_toArray, List.set_cons_succ, List.set_cons_zero]
  have S5 : St w F w4 F [] [] := S5
  refine do_ rfl (.int .i64 (forestE l)) (ex_assign _) ?_
  simp only [Act.put, List.setIfInBounds_toArray, List.set_cons_succ, List.set_cons_zero]
  refine wl_nil ?_
  (try simp only [Exit.then, Exit.inBlock, ↓reduceIte, Nat.reduceEqDiff])
  refine hK3 _ _ ?_
  refine wp_seq_k (fun K6 hK6 => ?_)
  refine region_wl ?_
  refine do_ rfl (.int .i64 (forestE l)) (ex_move _) ?_
  simp only [Act.put, List.setIfInBounds_toArray, List.set_cons_succ, List.set_cons_zero]
  refine do_ rfl (.bool false) (ex_neq (m := (forestE l)) (n := (0 : Int)) (b := false) rfl rfl (bne_eq_false_iff_eq.2 (ok))) ?_
  simp only [Act.put, List.setIfInBounds_toArray, List.set_cons_succ, List.set_cons_zero]
  refine wl_nil ?_
  (try simp only [Exit.then, Exit.inBlock, ↓reduceIte, Nat.reduceEqDiff])
  refine hK6 _ _ ?_
  refine wp_cond_false rfl ?_
  refine wp_skip ?_
  (try simp only [Exit.then, Exit.inBlock, ↓reduceIte, Nat.reduceEqDiff])
  refine hK2 _ _ ?_
  refine wp_seq_k (fun K7 hK7 => ?_)
  refine wp_seq_k (fun K8 hK8 => ?_)
  refine region_wl ?_
  refine do_ rfl (.slice a2 ws.length c2) (ex_move _) ?_
  simp only [Act.put, List.setIfInBounds_toArray, List.set_cons_succ, List.set_cons_zero]
  refine do_ rfl (.int .i64 ((ws.length : Nat) : Int)) (ex_len Try.underlying75 rfl) ?_
  simp only [Act.put, List.setIfInBounds_toArray, List.set_cons_succ, List.set_cons_zero]
  by_cases hc19 : 10 < ws.length
  · refine do_ rfl (.bool true) (ex_gtr (m := ((ws.length : Nat) : Int)) (n := (10 : Int)) (b := true) rfl rfl (decide_eq_true (by omega))) ?_
    simp only [Act.put, List.setIfInBounds_toArray, List.set_cons_succ, List.set_cons_zero]
    refine wl_nil ?_
    (try simp only [Exit.then, Exit.inBlock, ↓reduceIte, Nat.reduceEqDiff])
    refine hK8 _ _ ?_
    refine wp_cond_true rfl ?_
    refine wp_seq_k (fun K9 hK9 => ?_)
    refine region_wl ?_
    refine do_ rfl (.slice none 0 0) (ex_assign _) ?_
    simp only [Act.put, List.setIfInBounds_toArray, List.set_cons_succ, List.set_cons_zero]
    refine do_ rfl (.int .i64 1) (ex_assign _) ?_
    simp only [Act.put, List.setIfInBounds_toArray, List.set_cons_succ, List.set_cons_zero]
    refine wl_nil ?_
    (try simp only [Exit.then, Exit.inBlock, ↓reduceIte, Nat.reduceEqDiff])
    refine hK9 _ _ ?_
    refine wp_ret ?_
    (try simp only [Exit.then, Exit.inBlock, ↓reduceIte, Nat.reduceEqDiff])
    refine bodyPost_ret (v := (.tuple #[(.slice none 0 0), (.int .i64 1)])) ?_ rfl ?_
    · exact res_tt rfl rfl rfl
    · have hall : applyE l ws = (1, []) := by unfold applyE; rw [if_pos (by omega)]
      rw [hall]
      exact ⟨_, _, rfl, S5.gr, _, rfl, Sl.nil _ _ _⟩
  · refine do_ rfl (.bool false) (ex_gtr (m := ((ws.length : Nat) : Int)) (n := (10 : Int)) (b := false) rfl rfl (decide_eq_false (by omega))) ?_
    simp only [Act.put, List.setIfInBounds_toArray, List.set_cons_succ, List.set_cons_zero]
    refine wl_nil ?_
    (try simp only [Exit.then, Exit.inBlock, ↓reduceIte, Nat.reduceEqDiff])
    refine hK8 _ _ ?_
    refine wp_cond_false rfl ?_
    refine wp_skip ?_
    (try simp only [Exit.then, Exit.inBlock, ↓reduceIte, Nat.reduceEqDiff])
    refine hK7 _ _ ?_
    refine wp_seq_k (fun K10 hK10 => ?_)
    refine region_wl ?_
    refine do_ rfl (.slice a l.length c) (ex_move _) ?_
    simp only [Act.put, List.setIfInBounds_toArray, List.set_cons_succ, List.set_cons_zero]
    refine stGivesO TnC.mono S5 rfl (ex_fn (vs := #[(.slice a l.length c)]) (map1 rfl) rfl (ent_92 _ _)) (ownT_spec _ _ _ l (S5).sat hv (by omega) (fun t ht => ok1.small ht)) ?_
    intro v15 w11 F13 S12 le14
    simp only [Act.put, List.setIfInBounds_toArray, List.set_cons_succ, List.set_cons_zero]
    have S12 : St w F w11 F13 [] [ownP 2 TnC TnC.mono 83 w.heap.size v15 l] := S12
    refine do_ rfl v15 (ex_assign _) ?_
    simp only [Act.put, List.setIfInBounds_toArray, List.set_cons_succ, List.set_cons_zero]
    refine wl_nil ?_
    (try simp only [Exit.then, Exit.inBlock, ↓reduceIte, Nat.reduceEqDiff])
    refine hK10 _ _ ?_
    refine wp_seq_k (fun K16 hK16 => ?_)
    refine wp_seq_k (fun K17 hK17 => ?_)
    refine region_wl ?_
    refine do_ rfl (.slice a2 ws.length c2) (ex_move _) ?_
    simp only [Act.put, List.setIfInBounds_toArray, List.set_cons_succ, List.set_cons_zero]
    refine do_ rfl (.int .i64 ((ws.length : Nat) : Int)) (ex_len Try.underlying75 rfl) ?_
    simp only [Act.put, List.setIfInBounds_toArray, List.set_cons_succ, List.set_cons_zero]
    refine do_ rfl (.int .i64 0) (ex_move _) ?_
    simp only [Act.put, List.setIfInBounds_toArray, List.set_cons_succ, List.set_cons_zero]
    refine wl_nil ?_
    (try simp only [Exit.then, Exit.inBlock, ↓reduceIte, Nat.reduceEqDiff])
    refine hK17 _ _ ?_
    refine wp_block ?_
    refine wp_loop_g (fun mm aa w20 => ∃ (k : Nat) (v : Value) (F18 : Fz) (u19 : Nat → Value), mm = ws.length - k ∧ aa = ⟨#[(.slice a l.length c), (.slice a2 ws.length c2), undef, undef, (u19 4), (u19 5), (.int .i64 (forestE l)), v, undef, (u19 9), (u19 10), (u19 11), (.slice a l.length c), (.int .i64 (forestE l)), (.int .i64 (forestE l)), (.bool false), undef, (.slice a2 ws.length c2), (.int .i64 ((ws.length : Nat) : Int)), (.bool false), (.slice a l.length c), v15, (.slice a2 ws.length c2), (.int .i64 ((ws.length : Nat) : Int)), (.int .i64 ((k : Nat) : Int)), (u19 25), (u19 26), (u19 27), (u19 28), (u19 29), (u19 30), (u19 31), (u19 32), (u19 33), (u19 34), (u19 35), (u19 36), (u19 37), (u19 38), undef], []⟩ ∧ St w F w20 F18 [] [ownP 2 TnC TnC.mono 83 w.heap.size v ((applyR l (ws.take k)).2)] ∧ Le F13 F18 ∧ (k ≤ ws.length) ∧ ((applyR l (ws.take k)).1 = 0)) _ ⟨0, v15, F13, (slotF [(.slice a l.length c), (.slice a2 ws.length c2), undef, undef, (.slice none 0 0), (.int .i64 0), (.int .i64 (forestE l)), v15, undef, undef, undef, undef, (.slice a l.length c), (.int .i64 (forestE l)), (.int .i64 (forestE l)), (.bool false), undef, (.slice a2 ws.length c2), (.int .i64 ((ws.length : Nat) : Int)), (.bool false), (.slice a l.length c), v15, (.slice a2 ws.length c2), (.int .i64 ((ws.length : Nat) : Int)), (.int .i64 0), undef, undef, undef, undef, undef, undef, undef, undef, undef, undef, undef, undef, undef, undef, undef]), rfl, rfl, S12, Le.refl _, (by omega), rfl⟩ ?_
    rintro m21 a22 w23 ⟨k, v, F18, u19, rfl, rfl, S24, le25, hk, hz⟩ K26 hK26
    refine wp_seq_k (fun K27 hK27 => ?_)
    refine region_wl ?_
    by_cases hc25 : k < ws.length
    · refine do_ rfl (.bool true) (ex_lss (m := ((k : Nat) : Int)) (n := ((ws.length : Nat) : Int)) (b := true) rfl rfl (decide_eq_true (by omega))) ?_
      simp only [Act.put, List.setIfInBounds_toArray, List.set_cons_succ, List.set_cons_zero]
      refine wl_nil ?_
      (try simp only [Exit.then, Exit.inBlock, ↓reduceIte, Nat.reduceEqDiff])
      refine hK27 _ _ ?_
      refine wp_seq_k (fun K28 hK28 => ?_)
      refine wp_cond_true rfl ?_
      refine wp_skip ?_
      (try simp only [Exit.then, Exit.inBlock, ↓reduceIte, Nat.reduceEqDiff])
      refine hK28 _ _ ?_
      refine wp_seq_k (fun K29 hK29 => ?_)
      refine wp_block ?_
      refine wp_seq_k (fun K30 hK30 => ?_)
      obtain ⟨p, hp⟩ : ∃ p, ws[k]? = some p := ⟨ws[k], List.getElem?_eq_getElem hc25⟩
      obtain ⟨hb0, hb1, hb2⟩ := hb p (List.mem_of_getElem? hp)
      have okk := applyR_ok60 ok1 hz
      obtain ⟨b31, o32, ha33, xa35, xc36, xa39, xc40, xa44, xc45, c34, c38, c42, c43, r37, r41, r46⟩ := Wrs.get (hw.mono (le14.trans le25)) hp
      refine region_wl ?_
      refine do_ rfl (.pointer (some ⟨b31, o32 + k * 4, none⟩)) (ex_at (i := k) (sz := 4) Try.underlying75 (sizeof_67 _) rfl ha33 rfl (by omega) rfl) ?_
      simp only [Act.put, List.setIfInBounds_toArray, List.set_cons_succ, List.set_cons_zero]
      refine do_ rfl (.agg #[(.slice xa35 p.name.length xc36), (.slice xa39 p.key.length xc40), (.bool p.gone), (.slice xa44 p.value.length xc45)]) (ex_load rfl (loadN (cs := [(.slice xa35 p.name.length xc36), (.slice xa39 p.key.length xc40), (.bool p.gone), (.slice xa44 p.value.length xc45)]) Try.underlying67 rfl (size_67) (range4 (St.fz S24 c34) (St.fz S24 c38) (St.fz S24 c42) (St.fz S24 c43)))) ?_
      simp only [Act.put, List.setIfInBounds_toArray, List.set_cons_succ, List.set_cons_zero]
      refine stNew S24 (v := fun n => .pointer (some ⟨n, 0, none⟩)) rfl (ex_alloc (zero_67 _)) (fun n47 w48 S49 => ?_)
      simp only [Act.put, List.setIfInBounds_toArray, List.set_cons_succ, List.set_cons_zero]
      have S49 : St w F w48 F18 [⟨n47, [(.slice none 0 0), (.slice none 0 0), (.bool false), (.slice none 0 0)], 67⟩] [ownP 2 TnC TnC.mono 83 w.heap.size v ((applyR l (ws.take k)).2)] := S49
      refine stStore (i := 0) (v := (.agg #[(.slice xa35 p.name.length xc36), (.slice xa39 p.key.length xc40), (.bool p.gone), (.slice xa44 p.value.length xc45)])) S49 rfl rfl rfl rfl (size_67) (allc4 rfl rfl rfl rfl) (Nat.le_of_ble_eq_true rfl) (fun w50 S51 => ?_)
      simp only [Act.put, List.setIfInBounds_toArray, List.set_cons_succ, List.set_cons_zero]
      have S51 : St w F w50 F18 [⟨n47, [(.slice xa35 p.name.length xc36), (.slice xa39 p.key.length xc40), (.bool p.gone), (.slice xa44 p.value.length xc45)], 67⟩] [ownP 2 TnC TnC.mono 83 w.heap.size v ((applyR l (ws.take k)).2)] := S51
      refine wl_nil ?_
      (try simp only [Exit.then, Exit.inBlock, ↓reduceIte, Nat.reduceEqDiff])
      refine hK30 _ _ ?_
      refine wp_seq_k (fun K52 hK52 => ?_)
      refine region_wl ?_
      refine do_ rfl v (ex_move _) ?_
      simp only [Act.put, List.setIfInBounds_toArray, List.set_cons_succ, List.set_cons_zero]
      refine do_ rfl (.agg #[(.slice xa35 p.name.length xc36), (.slice xa39 p.key.length xc40), (.bool p.gone), (.slice xa44 p.value.length xc45)]) (ex_load rfl (loadN (cs := [(.slice xa35 p.name.length xc36), (.slice xa39 p.key.length xc40), (.bool p.gone), (.slice xa44 p.value.length xc45)]) Try.underlying67 rfl (size_67) (St.range S51 (i := 0) rfl 0 [(.slice xa35 p.name.length xc36), (.slice xa39 p.key.length xc40), (.bool p.gone), (.slice xa44 p.value.length xc45)] (sub_range 0 rfl)))) ?_
      simp only [Act.put, List.setIfInBounds_toArray, List.set_cons_succ, List.set_cons_zero]
      have hwr := write_spec (St.drop S51 (L' := []) (.cons _ (List.Sublist.refl _))) (r := p) ⟨_, _, _, _, _, _, rfl, r37, r41, r46⟩ okk hb0 hb1 hb2
      refine doC rfl (ex_fn (vs := #[v, (.agg #[(.slice xa35 p.name.length xc36), (.slice xa39 p.key.length xc40), (.bool p.gone), (.slice xa44 p.value.length xc45)])]) (map2 rfl rfl) rfl (ent_93 _ _)) hwr ?_
      rintro e w54 ⟨v53, rfl, F55, le56, ⟨hz58, S57⟩ | ⟨hz58, rfl, S57⟩⟩
      · refine ⟨_, rfl, ?_⟩
        rw [hz58]
        have hz2 := hz58
        rw [← applyR_snoc hz, ← take_snoc hp] at S57
        simp only [Act.put, List.setIfInBounds_toArray, List.set_cons_succ, List.set_cons_zero]
        have S57 : St w F w54 F55 [] [ownP 2 TnC TnC.mono 83 w.heap.size v53 ((applyR l (ws.take (k + 1))).2)] := S57
        refine do_ rfl (.tuple #[v53, (.int .i64 0)]) (ex_move _) ?_
        simp only [Act.put, List.setIfInBounds_toArray, List.set_cons_succ, List.set_cons_zero]
        refine do_ rfl v53 (ex_extract rfl rfl) ?_
        simp only [Act.put, List.setIfInBounds_toArray, List.set_cons_succ, List.set_cons_zero]
        refine do_ rfl (.int .i64 0) (ex_extract rfl rfl) ?_
        simp only [Act.put, List.setIfInBounds_toArray, List.set_cons_succ, List.set_cons_zero]
        refine do_ rfl v53 (ex_assign _) ?_
        simp only [Act.put, List.setIfInBounds_toArray, List.set_cons_succ, List.set_cons_zero]
        refine do_ rfl (.int .i64 0) (ex_assign _) ?_
        simp only [Act.put, List.setIfInBounds_toArray, List.set_cons_succ, List.set_cons_zero]
        refine wl_nil ?_
        (try simp only [Exit.then, Exit.inBlock, ↓reduceIte, Nat.reduceEqDiff])
        refine hK52 _ _ ?_
        refine wp_seq_k (fun K59 hK59 => ?_)
        refine wp_seq_k (fun K60 hK60 => ?_)
        refine region_wl ?_
        refine do_ rfl (.int .i64 0) (ex_move _) ?_
        simp only [Act.put, List.setIfInBounds_toArray, List.set_cons_succ, List.set_cons_zero]
        refine do_ rfl (.bool false) (ex_neq (b := false) rfl rfl (by decide)) ?_
        simp only [Act.put, List.setIfInBounds_toArray, List.set_cons_succ, List.set_cons_zero]
        refine wl_nil ?_
        (try simp only [Exit.then, Exit.inBlock, ↓reduceIte, Nat.reduceEqDiff])
        refine hK60 _ _ ?_
        refine wp_cond_false rfl ?_
        refine wp_skip ?_
        (try simp only [Exit.then, Exit.inBlock, ↓reduceIte, Nat.reduceEqDiff])
        refine hK59 _ _ ?_
        refine region_wl ?_
        refine do_ rfl v53 (ex_move _) ?_
        simp only [Act.put, List.setIfInBounds_toArray, List.set_cons_succ, List.set_cons_zero]
        refine do_ rfl v53 (ex_assign _) ?_
        simp only [Act.put, List.setIfInBounds_toArray, List.set_cons_succ, List.set_cons_zero]
        refine wl_nil ?_
        (try simp only [Exit.then, Exit.inBlock, ↓reduceIte, Nat.reduceEqDiff])
        refine hK29 _ _ ?_
        refine region_wl ?_
        refine do_ rfl (.int .i64 (((k + 1) : Nat) : Int)) (ex_add (m := ((k : Nat) : Int)) (n := (1 : Int)) (r := (((k + 1) : Nat) : Int)) rfl rfl (by omega) (by omega) (by omega)) ?_
        simp only [Act.put, List.setIfInBounds_toArray, List.set_cons_succ, List.set_cons_zero]
        refine do_ rfl (.int .i64 (((k + 1) : Nat) : Int)) (ex_move _) ?_
        simp only [Act.put, List.setIfInBounds_toArray, List.set_cons_succ, List.set_cons_zero]
        refine wl_nil ?_
        (try simp only [Exit.then, Exit.inBlock, ↓reduceIte, Nat.reduceEqDiff])
        exact hK26 _ _ _ (by omega) ⟨(k + 1), v53, F55, (slotF [(.slice a l.length c), (.slice a2 ws.length c2), undef, undef, (u19 4), (u19 5), (.int .i64 (forestE l)), v53, undef, (.pointer (some ⟨n47, 0, none⟩)), v53, (.int .i64 0), (.slice a l.length c), (.int .i64 (forestE l)), (.int .i64 (forestE l)), (.bool false), undef, (.slice a2 ws.length c2), (.int .i64 ((ws.length : Nat) : Int)), (.bool false), (.slice a l.length c), v15, (.slice a2 ws.length c2), (.int .i64 ((ws.length : Nat) : Int)), (.int .i64 (((k + 1) : Nat) : Int)), (.bool true), (.pointer (some ⟨b31, o32 + k * 4, none⟩)), (.agg #[(.slice xa35 p.name.length xc36), (.slice xa39 p.key.length xc40), (.bool p.gone), (.slice xa44 p.value.length xc45)]), (.tuple #[v53, (.int .i64 0)]), v, (.agg #[(.slice xa35 p.name.length xc36), (.slice xa39 p.key.length xc40), (.bool p.gone), (.slice xa44 p.value.length xc45)]), (.tuple #[v53, (.int .i64 0)]), v53, (.int .i64 0), (.int .i64 0), (.bool false), (u19 36), v53, (.int .i64 (((k + 1) : Nat) : Int)), undef]), rfl, rfl, S57, (le25.trans le56), (by omega), (by rw [take_snoc hp, applyR_snoc hz]; exact hz2)⟩
      · refine ⟨_, rfl, ?_⟩
        have hbad := hz58
        simp only [Act.put, List.setIfInBounds_toArray, List.set_cons_succ, List.set_cons_zero]
        have S57 : St w F w54 F55 [] [] := S57
        refine do_ rfl (.tuple #[(.slice none 0 0), (.int .i64 (applyR ((applyR l (ws.take k)).2) [p]).1)]) (ex_move _) ?_
        simp only [Act.put, List.setIfInBounds_toArray, List.set_cons_succ, List.set_cons_zero]
        refine do_ rfl (.slice none 0 0) (ex_extract rfl rfl) ?_
        simp only [Act.put, List.setIfInBounds_toArray, List.set_cons_succ, List.set_cons_zero]
        refine do_ rfl (.int .i64 (applyR ((applyR l (ws.take k)).2) [p]).1) (ex_extract rfl rfl) ?_
        simp only [Act.put, List.setIfInBounds_toArray, List.set_cons_succ, List.set_cons_zero]
        refine do_ rfl (.slice none 0 0) (ex_assign _) ?_
        simp only [Act.put, List.setIfInBounds_toArray, List.set_cons_succ, List.set_cons_zero]
        refine do_ rfl (.int .i64 (applyR ((applyR l (ws.take k)).2) [p]).1) (ex_assign _) ?_
        simp only [Act.put, List.setIfInBounds_toArray, List.set_cons_succ, List.set_cons_zero]
        refine wl_nil ?_
        (try simp only [Exit.then, Exit.inBlock, ↓reduceIte, Nat.reduceEqDiff])
        refine hK52 _ _ ?_
        refine wp_seq_k (fun K61 hK61 => ?_)
        refine wp_seq_k (fun K62 hK62 => ?_)
        refine region_wl ?_
        refine do_ rfl (.int .i64 (applyR ((applyR l (ws.take k)).2) [p]).1) (ex_move _) ?_
        simp only [Act.put, List.setIfInBounds_toArray, List.set_cons_succ, List.set_cons_zero]
        refine do_ rfl (.bool true) (ex_neq (m := (applyR ((applyR l (ws.take k)).2) [p]).1) (n := (0 : Int)) (b := true) rfl rfl (bne_iff_ne.2 (hbad))) ?_
        simp only [Act.put, List.setIfInBounds_toArray, List.set_cons_succ, List.set_cons_zero]
        refine wl_nil ?_
        (try simp only [Exit.then, Exit.inBlock, ↓reduceIte, Nat.reduceEqDiff])
        refine hK62 _ _ ?_
        refine wp_cond_true rfl ?_
        refine wp_seq_k (fun K63 hK63 => ?_)
        refine region_wl ?_
        refine do_ rfl (.int .i64 (applyR ((applyR l (ws.take k)).2) [p]).1) (ex_move _) ?_
        simp only [Act.put, List.setIfInBounds_toArray, List.set_cons_succ, List.set_cons_zero]
        refine do_ rfl (.slice none 0 0) (ex_assign _) ?_
        simp only [Act.put, List.setIfInBounds_toArray, List.set_cons_succ, List.set_cons_zero]
        refine do_ rfl (.int .i64 (applyR ((applyR l (ws.take k)).2) [p]).1) (ex_assign _) ?_
        simp only [Act.put, List.setIfInBounds_toArray, List.set_cons_succ, List.set_cons_zero]
        refine wl_nil ?_
        (try simp only [Exit.then, Exit.inBlock, ↓reduceIte, Nat.reduceEqDiff])
        refine hK63 _ _ ?_
        refine wp_ret ?_
        (try simp only [Exit.then, Exit.inBlock, ↓reduceIte, Nat.reduceEqDiff])
        refine bodyPost_ret (v := (.tuple #[(.slice none 0 0), (.int .i64 (applyR ((applyR l (ws.take k)).2) [p]).1)])) ?_ rfl ?_
        · exact res_tt rfl rfl rfl
        · have hall : applyE l ws = applyR l (ws.take (k + 1)) := by
            unfold applyE
            rw [if_neg (by omega)]
            have h := applyR_stop (us := ws.drop (k + 1)) (ws := ws.take (k + 1)) (f := l) (by rw [take_snoc hp, applyR_snoc hz]; exact hbad)
            rwa [List.take_append_drop] at h
          rw [hall, take_snoc hp, applyR_snoc hz, bad_nil hbad]
          exact ⟨_, _, rfl, S57.gr, _, rfl, Sl.nil _ _ _⟩
    · refine do_ rfl (.bool false) (ex_lss (m := ((k : Nat) : Int)) (n := ((ws.length : Nat) : Int)) (b := false) rfl rfl (decide_eq_false (by omega))) ?_
      simp only [Act.put, List.setIfInBounds_toArray, List.set_cons_succ, List.set_cons_zero]
      refine wl_nil ?_
      (try simp only [Exit.then, Exit.inBlock, ↓reduceIte, Nat.reduceEqDiff])
      refine hK27 _ _ ?_
      refine wp_seq_k (fun K64 hK64 => ?_)
      refine wp_cond_false rfl ?_
      refine wp_exit ?_
      (try simp only [Exit.then, Exit.inBlock, ↓reduceIte, Nat.reduceEqDiff])
      refine hK16 _ _ ?_
      refine wp_seq_k (fun K65 hK65 => ?_)
      refine region_wl ?_
      refine do_ rfl v (ex_move _) ?_
      simp only [Act.put, List.setIfInBounds_toArray, List.set_cons_succ, List.set_cons_zero]
      refine do_ rfl v (ex_assign _) ?_
      simp only [Act.put, List.setIfInBounds_toArray, List.set_cons_succ, List.set_cons_zero]
      refine do_ rfl (.int .i64 0) (ex_assign _) ?_
      simp only [Act.put, List.setIfInBounds_toArray, List.set_cons_succ, List.set_cons_zero]
      refine wl_nil ?_
      (try simp only [Exit.then, Exit.inBlock, ↓reduceIte, Nat.reduceEqDiff])
      refine hK65 _ _ ?_
      refine wp_ret ?_
      (try simp only [Exit.then, Exit.inBlock, ↓reduceIte, Nat.reduceEqDiff])
      refine bodyPost_ret (v := (.tuple #[v, (.int .i64 0)])) ?_ rfl ?_
      · exact res_tt rfl rfl rfl
      · have hall : applyE l ws = applyR l (ws.take k) := by unfold applyE; rw [if_neg (by omega), List.take_of_length_le (by omega)]
        rw [hall, hz]
        obtain ⟨F66, S67, le68, hv69⟩ := St.freeze S24 (i := 0) rfl (Nat.le_refl _)
        have S67 : St w F w23 F66 [] [] := S67
        have hv69 : Tns _ v ((applyR l (ws.take k)).2) := hv69
        exact ⟨_, _, rfl, S67.gr, _, rfl, hv69⟩
theorem checkedOk_spec (F : Fz) (w : World) (v u : Value) (l : Forest) (k : By) (hs : Sat w F) (hv : Tns F v l) (hu : Bs F u k) (ok1 : ForestOk 60 l) {e : Int} (he : nameN k.length = e) :
    Calls Try.prog 96 #[v, u] w (Tells w (.int .i64 e)) := by
  subst he; exact checkedT_spec F w v u l k hs hv hu ok1
theorem stTree {P : Program} {w0 w : World} {F0 F : Fz} {L : List Blk} {M : List RowP} {ops : Array Oper} {Q : Exit → Act → World → Prop} {a : Act} {rest : List Oper} {o : Oper} {k : FuncId} {vs : Array Value} {l : List Pr} (S : St w0 F0 w F L M) (hw : Region.wanted o (yielded ops a.tmps) = true)
    (hr : (execOp a.eval o).run P w = .ok (.enter k vs) w) (hc : Calls P k vs w fun e w' => ∃ x, e = .returned x ∧ Below w.heap.size w w' ∧ Prs F x l)
    (h : ∀ x w', St w0 F0 w' F L M → Prs F x l → WL P ops Q rest (a.put o.dst x) w') : WL P ops Q (o :: rest) a w :=
  doC hw hr hc fun e w' ⟨x, he, hb, hp⟩ => ⟨x, he, h x w' (S.tells hb) hp⟩
set_option maxHeartbeats 8000000 in
theorem getF_spec (F : Fz) (w : World) (v u z : Value) (l : Forest) (n k : By) (hs : Sat w F) (hv : Tns F v l) (hn : Bs F u n) (hk : Bs F z k) (ok1 : ForestOk 60 l) (hnn : 1 ≤ n.length ∧ n.length ≤ 8) (hkk : 1 ≤ k.length ∧ k.length ≤ 16) :
    Calls Try.prog 62 #[v, u, z] w (Gives w F (GetR (getF l n k) 0)) := by
  have hn0 := nameN_ok hnn.1 hnn.2
  have hl8 := ok1.len
  obtain ⟨a, c, rfl, hc1, hc2⟩ := Sl.shape hv
  obtain ⟨a2, c2, rfl, _⟩ := hn.shape
  obtain ⟨a3, c3, rfl, _⟩ := hk.shape
  have S := St.start hs
  go_enter Try.func62, Try.ntmps62
  refine wp_seq_k (fun K1 hK1 => ?_)
  refine region_wl ?_
  refine stNew S (v := fun n => .pointer (some ⟨n, 0, none⟩)) rfl (ex_alloc (zero_53 _)) (fun n2 w3 S4 => ?_)
  simp only [Act.put, List.setIfInBounds_toArray, List.set_cons_succ, List.set_cons_zero]
  have S4 : St w F w3 F [⟨n2, [(.bool false), (.slice none 0 0)], 53⟩] [] := S4
  refine do_ rfl (.int .i64 0) (ex_assign _) ?_
  simp only [Act.put, List.setIfInBounds_toArray, List.set_cons_succ, List.set_cons_zero]
  refine wl_nil ?_
  (try simp only [Exit.then, Exit.inBlock, ↓reduceIte, Nat.reduceEqDiff])
  refine hK1 _ _ ?_
  refine wp_seq_k (fun K5 hK5 => ?_)
  refine wp_seq_k (fun K6 hK6 => ?_)
  refine region_wl ?_
  refine do_ rfl (.slice a l.length c) (ex_move _) ?_
  simp only [Act.put, List.setIfInBounds_toArray, List.set_cons_succ, List.set_cons_zero]
  refine do_ rfl (.slice a2 n.length c2) (ex_move _) ?_
  simp only [Act.put, List.setIfInBounds_toArray, List.set_cons_succ, List.set_cons_zero]
  refine stTells (v := (.int .i64 0)) S4 rfl (ex_fn (vs := #[(.slice a l.length c), (.slice a2 n.length c2)]) (map2 rfl rfl) rfl (ent_96 _ _)) (checkedOk_spec _ _ _ _ l n (S4).sat hv hn ok1 hn0) (fun w7 S8 => ?_)
  simp only [Act.put, List.setIfInBounds_toArray, List.set_cons_succ, List.set_cons_zero]
  have S8 : St w F w7 F [⟨n2, [(.bool false), (.slice none 0 0)], 53⟩] [] := S8
  refine do_ rfl (.int .i64 0) (ex_assign _) ?_
  simp only [Act.put, List.setIfInBounds_toArray, List.set_cons_succ, List.set_cons_zero]
  refine wl_nil ?_
  (try simp only [Exit.then, Exit.inBlock, ↓reduceIte, Nat.reduceEqDiff])
  refine hK6 _ _ ?_
  refine wp_seq_k (fun K9 hK9 => ?_)
  refine region_wl ?_
  refine do_ rfl (.int .i64 0) (ex_move _) ?_
  simp only [Act.put, List.setIfInBounds_toArray, List.set_cons_succ, List.set_cons_zero]
  refine do_ rfl (.bool false) (ex_neq (b := false) rfl rfl (by decide)) ?_
  simp only [Act.put, List.setIfInBounds_toArray, List.set_cons_succ, List.set_cons_zero]
  refine wl_nil ?_
  (try simp only [Exit.then, Exit.inBlock, ↓reduceIte, Nat.reduceEqDiff])
  refine hK9 _ _ ?_
  refine wp_cond_false rfl ?_
  refine wp_skip ?_
  (try simp only [Exit.then, Exit.inBlock, ↓reduceIte, Nat.reduceEqDiff])
  refine hK5 _ _ ?_
  refine wp_seq_k (fun K10 hK10 => ?_)
  refine region_wl ?_
  refine do_ rfl (.slice a l.length c) (ex_move _) ?_
  simp only [Act.put, List.setIfInBounds_toArray, List.set_cons_succ, List.set_cons_zero]
  refine do_ rfl (.slice a2 n.length c2) (ex_move _) ?_
  simp only [Act.put, List.setIfInBounds_toArray, List.set_cons_succ, List.set_cons_zero]
  refine stTree S8 rfl (ex_fn (vs := #[(.slice a l.length c), (.slice a2 n.length c2)]) (map2 rfl rfl) rfl (ent_97 _ _)) (pairsT_spec _ _ _ _ l n (S8).sat hv hn ok1.rise (by omega)) ?_
  intro x11 w12 S13 hp14
  obtain ⟨a15, c16, rfl, _⟩ := Sl.shape hp14
  simp only [Act.put, List.setIfInBounds_toArray, List.set_cons_succ, List.set_cons_zero]
  have S13 : St w F w12 F [⟨n2, [(.bool false), (.slice none 0 0)], 53⟩] [] := S13
  refine do_ rfl (.slice a3 k.length c3) (ex_move _) ?_
  simp only [Act.put, List.setIfInBounds_toArray, List.set_cons_succ, List.set_cons_zero]
  refine stGives S13 rfl (ex_fn (vs := #[(.slice a15 (treeF l n).length c16), (.slice a3 k.length c3)]) (map2 rfl rfl) rfl (ent_51 _ _)) (getIs_spec _ _ _ _ (treeF l n) k (S13).sat hp14 hk (TreeOk.mono (show TreeOk 60 (treeF l n) from treeF_ok ok1 n) (by omega)) (hkk) (rfl)) ?_
  intro v22 w17 F19 S18 le20 R21
  obtain ⟨_, rfl, a23, c24, rfl, r25⟩ := R21
  have r25 : Bs _ (.slice a23 ((getT (treeF l n) k).getD []).length c24) ((getT (treeF l n) k).getD []) := r25
  simp only [Act.put, List.setIfInBounds_toArray, List.set_cons_succ, List.set_cons_zero]
  have S18 : St w F w17 F19 [⟨n2, [(.bool false), (.slice none 0 0)], 53⟩] [] := S18
  refine do_ rfl (.agg #[(.bool (getT (treeF l n) k).isSome), (.slice a23 ((getT (treeF l n) k).getD []).length c24)]) (ex_extract rfl rfl) ?_
  simp only [Act.put, List.setIfInBounds_toArray, List.set_cons_succ, List.set_cons_zero]
  refine do_ rfl (.int .i64 0) (ex_extract rfl rfl) ?_
  simp only [Act.put, List.setIfInBounds_toArray, List.set_cons_succ, List.set_cons_zero]
  refine stStore (i := 0) (v := (.agg #[(.bool (getT (treeF l n) k).isSome), (.slice a23 ((getT (treeF l n) k).getD []).length c24)])) S18 rfl rfl rfl rfl (size_53) (allc2 rfl rfl) (Nat.le_of_ble_eq_true rfl) (fun w26 S27 => ?_)
  simp only [Act.put, List.setIfInBounds_toArray, List.set_cons_succ, List.set_cons_zero]
  have S27 : St w F w26 F19 [⟨n2, [(.bool (getT (treeF l n) k).isSome), (.slice a23 ((getT (treeF l n) k).getD []).length c24)], 53⟩] [] := S27
  refine do_ rfl (.int .i64 0) (ex_assign _) ?_
  simp only [Act.put, List.setIfInBounds_toArray, List.set_cons_succ, List.set_cons_zero]
  refine wl_nil ?_
  (try simp only [Exit.then, Exit.inBlock, ↓reduceIte, Nat.reduceEqDiff])
  refine hK10 _ _ ?_
  refine wp_ret ?_
  (try simp only [Exit.then, Exit.inBlock, ↓reduceIte, Nat.reduceEqDiff])
  refine bodyPost_ret (v := (.tuple #[(.agg #[(.bool (getT (treeF l n) k).isSome), (.slice a23 ((getT (treeF l n) k).getD []).length c24)]), (.int .i64 0)])) ?_ rfl ?_
  · exact res_ct rfl ⟨_, rfl, loadN (cs := [(.bool (getT (treeF l n) k).isSome), (.slice a23 ((getT (treeF l n) k).getD []).length c24)]) Try.underlying53 rfl (size_53) (St.range S27 (i := 0) rfl 0 [(.bool (getT (treeF l n) k).isSome), (.slice a23 ((getT (treeF l n) k).getD []).length c24)] (sub_range 0 rfl))⟩ rfl
  · exact ⟨_, _, rfl, S27.gr, _, rfl, _, _, rfl, r25⟩
set_option maxHeartbeats 8000000 in
theorem rangeF_spec (F : Fz) (w : World) (v u z y : Value) (l : Forest) (n k j : By) (hs : Sat w F) (hv : Tns F v l) (hn : Bs F u n) (hk : Bs F z k) (hj : Bs F y j) (ok1 : ForestOk 60 l) (hnn : 1 ≤ n.length ∧ n.length ≤ 8) (hkk : 1 ≤ k.length ∧ k.length ≤ 16) (hjj : 1 ≤ j.length ∧ j.length ≤ 16) :
    Calls Try.prog 64 #[v, u, z, y] w (Gives w F (PrsE (rangeT (treeF l n) k j) 0)) := by
  have hn0 := nameN_ok hnn.1 hnn.2
  have hl8 := ok1.len
  obtain ⟨a, c, rfl, hc1, hc2⟩ := Sl.shape hv
  obtain ⟨a2, c2, rfl, _⟩ := hn.shape
  obtain ⟨a3, c3, rfl, _⟩ := hk.shape
  obtain ⟨a4, c4, rfl, _⟩ := hj.shape
  have S := St.start hs
  go_enter Try.func64, Try.ntmps64
  refine wp_seq_k (fun K1 hK1 => ?_)
  refine region_wl ?_
  refine do_ rfl (.slice none 0 0) (ex_assign _) ?_
  simp only [Act.put, List.setIfInBounds_toArray, List.set_cons_succ, List.set_cons_zero]
  refine do_ rfl (.int .i64 0) (ex_assign _) ?_
  simp only [Act.put, List.setIfInBounds_toArray, List.set_cons_succ, List.set_cons_zero]
  refine wl_nil ?_
  (try simp only [Exit.then, Exit.inBlock, ↓reduceIte, Nat.reduceEqDiff])
  refine hK1 _ _ ?_
  refine wp_seq_k (fun K2 hK2 => ?_)
  refine wp_seq_k (fun K3 hK3 => ?_)
  refine region_wl ?_
  refine do_ rfl (.slice a l.length c) (ex_move _) ?_
  simp only [Act.put, List.setIfInBounds_toArray, List.set_cons_succ, List.set_cons_zero]
  refine do_ rfl (.slice a2 n.length c2) (ex_move _) ?_
  simp only [Act.put, List.setIfInBounds_toArray, List.set_cons_succ, List.set_cons_zero]
  refine stTells (v := (.int .i64 0)) S rfl (ex_fn (vs := #[(.slice a l.length c), (.slice a2 n.length c2)]) (map2 rfl rfl) rfl (ent_96 _ _)) (checkedOk_spec _ _ _ _ l n (S).sat hv hn ok1 hn0) (fun w4 S5 => ?_)
  simp only [Act.put, List.setIfInBounds_toArray, List.set_cons_succ, List.set_cons_zero]
  have S5 : St w F w4 F [] [] := S5
  refine do_ rfl (.int .i64 0) (ex_assign _) ?_
  simp only [Act.put, List.setIfInBounds_toArray, List.set_cons_succ, List.set_cons_zero]
  refine wl_nil ?_
  (try simp only [Exit.then, Exit.inBlock, ↓reduceIte, Nat.reduceEqDiff])
  refine hK3 _ _ ?_
  refine wp_seq_k (fun K6 hK6 => ?_)
  refine region_wl ?_
  refine do_ rfl (.int .i64 0) (ex_move _) ?_
  simp only [Act.put, List.setIfInBounds_toArray, List.set_cons_succ, List.set_cons_zero]
  refine do_ rfl (.bool false) (ex_neq (b := false) rfl rfl (by decide)) ?_
  simp only [Act.put, List.setIfInBounds_toArray, List.set_cons_succ, List.set_cons_zero]
  refine wl_nil ?_
  (try simp only [Exit.then, Exit.inBlock, ↓reduceIte, Nat.reduceEqDiff])
  refine hK6 _ _ ?_
  refine wp_cond_false rfl ?_
  refine wp_skip ?_
  (try simp only [Exit.then, Exit.inBlock, ↓reduceIte, Nat.reduceEqDiff])
  refine hK2 _ _ ?_
  refine wp_seq_k (fun K7 hK7 => ?_)
  refine region_wl ?_
  refine do_ rfl (.slice a l.length c) (ex_move _) ?_
  simp only [Act.put, List.setIfInBounds_toArray, List.set_cons_succ, List.set_cons_zero]
  refine do_ rfl (.slice a2 n.length c2) (ex_move _) ?_
  simp only [Act.put, List.setIfInBounds_toArray, List.set_cons_succ, List.set_cons_zero]
  refine stTree S5 rfl (ex_fn (vs := #[(.slice a l.length c), (.slice a2 n.length c2)]) (map2 rfl rfl) rfl (ent_97 _ _)) (pairsT_spec _ _ _ _ l n (S5).sat hv hn ok1.rise (by omega)) ?_
  intro x8 w9 S10 hp11
  obtain ⟨a12, c13, rfl, _⟩ := Sl.shape hp11
  simp only [Act.put, List.setIfInBounds_toArray, List.set_cons_succ, List.set_cons_zero]
  have S10 : St w F w9 F [] [] := S10
  refine do_ rfl (.slice a3 k.length c3) (ex_move _) ?_
  simp only [Act.put, List.setIfInBounds_toArray, List.set_cons_succ, List.set_cons_zero]
  refine do_ rfl (.slice a4 j.length c4) (ex_move _) ?_
  simp only [Act.put, List.setIfInBounds_toArray, List.set_cons_succ, List.set_cons_zero]
  refine stGives S10 rfl (ex_fn (vs := #[(.slice a12 (treeF l n).length c13), (.slice a3 k.length c3), (.slice a4 j.length c4)]) (map3 rfl rfl rfl) rfl (ent_49 _ _)) (rangeOk_spec _ _ _ _ _ (treeF l n) k j (S10).sat hp11 hk hj (TreeOk.mono (show TreeOk 60 (treeF l n) from treeF_ok ok1 n) (by omega)) (hkk) (hjj)) ?_
  intro v19 w14 F16 S15 le17 R18
  obtain ⟨_, rfl, r22⟩ := R18
  obtain ⟨a20, c21, rfl, h23, h24⟩ := Sl.shape r22
  unfold maxLen at h24
  have h23 : (rangeT (treeF l n) k j).length ≤ c21 := h23
  have r22 : Prs _ (.slice a20 (rangeT (treeF l n) k j).length c21) (rangeT (treeF l n) k j) := r22
  simp only [Act.put, List.setIfInBounds_toArray, List.set_cons_succ, List.set_cons_zero]
  have S15 : St w F w14 F16 [] [] := S15
  refine do_ rfl (.slice a20 (rangeT (treeF l n) k j).length c21) (ex_extract rfl rfl) ?_
  simp only [Act.put, List.setIfInBounds_toArray, List.set_cons_succ, List.set_cons_zero]
  refine do_ rfl (.int .i64 0) (ex_extract rfl rfl) ?_
  simp only [Act.put, List.setIfInBounds_toArray, List.set_cons_succ, List.set_cons_zero]
  refine do_ rfl (.slice a20 (rangeT (treeF l n) k j).length c21) (ex_assign _) ?_
  simp only [Act.put, List.setIfInBounds_toArray, List.set_cons_succ, List.set_cons_zero]
  refine do_ rfl (.int .i64 0) (ex_assign _) ?_
  simp only [Act.put, List.setIfInBounds_toArray, List.set_cons_succ, List.set_cons_zero]
  refine wl_nil ?_
  (try simp only [Exit.then, Exit.inBlock, ↓reduceIte, Nat.reduceEqDiff])
  refine hK7 _ _ ?_
  refine wp_ret ?_
  (try simp only [Exit.then, Exit.inBlock, ↓reduceIte, Nat.reduceEqDiff])
  refine bodyPost_ret (v := (.tuple #[(.slice a20 (rangeT (treeF l n) k j).length c21), (.int .i64 0)])) ?_ rfl ?_
  · exact res_tt rfl rfl rfl
  · exact ⟨_, _, rfl, S15.gr, _, rfl, r22⟩
end Go.Proofs.Yteefnnnbbmbmcaa
