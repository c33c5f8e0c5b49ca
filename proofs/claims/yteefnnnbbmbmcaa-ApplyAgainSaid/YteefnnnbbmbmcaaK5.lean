/- Walks: canopykeep.Forest, sameForest -/
import Derived.Test.YteefnnnbbmbmcaaK4
namespace Go.Proofs.Yteefnnnbbmbmcaa
open Go.RowKit
set_option maxRecDepth 100000
set_option linter.unusedVariables false
set_option linter.unusedSimpArgs false
theorem apply_is {F : Fz} {w : World} {v u : Value} {l g : Forest} {ws : List Wr} {e : Int} (hs : Sat w F) (hv : Tns F v l) (hw : Wrs F u ws) (ok1 : ForestOk 60 l) (hb : ∀ r ∈ ws, WrOk r) (h : applyE l ws = (e, g)) :
    Calls Try.prog 59 #[v, u] w (Gives w F (TnsE g e)) := by
  have := apply_spec F w v u l ws hs hv hw ok1 fun r hr => by have h := hb r hr; have := h.name.2; have := h.key2; have := h.value; omega
  rwa [h] at this
theorem applyE_one {l : Forest} {r : Wr} (h : WrOk r) : applyE l [r] = match writeF l r with | some g => (0, g) | none => (11, []) := by
  unfold applyE
  rw [if_neg (by simp), applyR_ok (by simpa using h), applyF_one]
  cases writeF l r <;> rfl
theorem forestW_take {ws : List Wr} {k : Nat} {p : Wr} (h : ws[k]? = some p) : forestW (ws.take (k + 1)) = (writeF (forestW (ws.take k)) p).getD (forestW (ws.take k)) := by
  obtain ⟨hk, rfl⟩ := List.getElem?_eq_some_iff.1 h
  rw [List.take_succ_eq_append_getElem hk, forestW_snoc, applyF_one]
theorem forestW_ok60 {ws : List Wr} (h : ∀ w ∈ ws, WrOk w) (hl : ws.length ≤ 60) (k : Nat) : ForestOk 60 (forestW (ws.take k)) :=
  (forestW_ok fun w hw => h w (List.mem_of_mem_take hw)).mono (by rw [List.length_take]; omega)
theorem one_of {α : Type} {ws : List α} {k : Nat} {p : α} (h : ws[k]? = some p) : (ws.take (k + 1)).drop k = [p] := by
  obtain ⟨hk, rfl⟩ := List.getElem?_eq_some_iff.1 h
  rw [List.take_succ_eq_append_getElem hk, List.drop_append_of_le_length (by rw [List.length_take]; omega), List.drop_of_length_le (by rw [List.length_take]; omega)]
  rfl
set_option maxHeartbeats 8000000 in
theorem forest_spec (F : Fz) (w : World) (v : Value) (l : List Pl) (m : Nat) (hs : Sat w F) (hv : Pls F v l) (hm : m ≤ 60) :
    Calls Try.prog 57 #[v, .int .i64 (m : Nat)] w (Gives w F fun F' u => Tns F' u (forestW (writesN l m))) := by
  obtain ⟨a, c, rfl, hc1, hc2⟩ := Sl.shape hv
  unfold maxLen at hc2
  have S := St.start hs
  go_enter Try.func57, Try.ntmps57
  refine wp_seq_k (fun K1 hK1 => ?_)
  refine region_wl ?_
  refine do_ rfl (.slice none 0 0) (ex_assign _) ?_
  simp only [Act.put, List.setIfInBounds_toArray, List.set_cons_succ, List.set_cons_zero]
  refine wl_nil ?_
  (try simp only [Exit.then, Exit.inBlock, ↓reduceIte, Nat.reduceEqDiff])
  refine hK1 _ _ ?_
  refine wp_seq_k (fun K2 hK2 => ?_)
  refine region_wl ?_
  refine do_ rfl (.slice none 0 0) (ex_assign _) ?_
  simp only [Act.put, List.setIfInBounds_toArray, List.set_cons_succ, List.set_cons_zero]
  refine wl_nil ?_
  (try simp only [Exit.then, Exit.inBlock, ↓reduceIte, Nat.reduceEqDiff])
  refine hK2 _ _ ?_
  refine wp_seq_k (fun K3 hK3 => ?_)
  refine region_wl ?_
  refine do_ rfl (.slice a l.length c) (ex_move _) ?_
  simp only [Act.put, List.setIfInBounds_toArray, List.set_cons_succ, List.set_cons_zero]
  refine do_ rfl (.int .i64 ((m : Nat) : Int)) (ex_move _) ?_
  simp only [Act.put, List.setIfInBounds_toArray, List.set_cons_succ, List.set_cons_zero]
  refine stGives S rfl (ex_fn (vs := #[(.slice a l.length c), (.int .i64 ((m : Nat) : Int))]) (map2 rfl rfl) rfl (ent_58 _ _)) (writes_spec _ _ _ l m (S).sat hv (by omega)) ?_
  intro v9 w4 F6 S5 le7 R8
  obtain ⟨a10, c11, rfl, h12, h13⟩ := Sl.shape R8
  unfold maxLen at h13
  simp only [Act.put, List.setIfInBounds_toArray, List.set_cons_succ, List.set_cons_zero]
  have S5 : St w F w4 F6 [] [] := S5
  refine do_ rfl (.slice a10 (writesN l m).length c11) (ex_assign _) ?_
  simp only [Act.put, List.setIfInBounds_toArray, List.set_cons_succ, List.set_cons_zero]
  refine wl_nil ?_
  (try simp only [Exit.then, Exit.inBlock, ↓reduceIte, Nat.reduceEqDiff])
  refine hK3 _ _ ?_
  refine wp_seq_k (fun K14 hK14 => ?_)
  refine wp_seq_k (fun K15 hK15 => ?_)
  have hwl := writesN_len l m
  have hwok := writesN_ok l m
  refine region_wl ?_
  refine do_ rfl (.int .i64 0) (ex_assign _) ?_
  simp only [Act.put, List.setIfInBounds_toArray, List.set_cons_succ, List.set_cons_zero]
  refine wl_nil ?_
  (try simp only [Exit.then, Exit.inBlock, ↓reduceIte, Nat.reduceEqDiff])
  refine hK15 _ _ ?_
  refine wp_block ?_
  refine wp_loop_g (fun mm aa w18 => ∃ (k : Nat) (v : Value) (F16 : Fz) (u17 : Nat → Value), mm = (writesN l m).length - k ∧ aa = ⟨#[(.slice a l.length c), (.int .i64 ((m : Nat) : Int)), undef, undef, (.slice none 0 0), v, (.slice a10 (writesN l m).length c11), (.int .i64 ((k : Nat) : Int)), (u17 8), (u17 9), (.slice a l.length c), (.int .i64 ((m : Nat) : Int)), (.slice a10 (writesN l m).length c11), (u17 13), (u17 14), (u17 15), (u17 16), (u17 17), (u17 18), (u17 19), (u17 20), (u17 21), (u17 22), (u17 23), (u17 24), (u17 25), (u17 26), (u17 27), (u17 28), (u17 29), (u17 30), (u17 31), undef], []⟩ ∧ St w F w18 F16 [] [] ∧ Le F6 F16 ∧ (k ≤ (writesN l m).length) ∧ (Tns F16 v (forestW ((writesN l m).take k)))) _ ⟨0, (.slice none 0 0), F6, (slotF [(.slice a l.length c), (.int .i64 ((m : Nat) : Int)), undef, undef, (.slice none 0 0), (.slice none 0 0), (.slice a10 (writesN l m).length c11), (.int .i64 0), undef, undef, (.slice a l.length c), (.int .i64 ((m : Nat) : Int)), (.slice a10 (writesN l m).length c11), undef, undef, undef, undef, undef, undef, undef, undef, undef, undef, undef, undef, undef, undef, undef, undef, undef, undef, undef, undef]), rfl, rfl, S5, Le.refl _, (by omega), (Sl.nil _ _ _)⟩ ?_
  rintro m19 a20 w21 ⟨k, v, F16, u17, rfl, rfl, S22, le23, hk, hvF⟩ K24 hK24
  refine wp_seq_k (fun K25 hK25 => ?_)
  refine wp_seq_k (fun K26 hK26 => ?_)
  refine region_wl ?_
  refine do_ rfl (.int .i64 ((k : Nat) : Int)) (ex_move _) ?_
  simp only [Act.put, List.setIfInBounds_toArray, List.set_cons_succ, List.set_cons_zero]
  refine do_ rfl (.slice a10 (writesN l m).length c11) (ex_move _) ?_
  simp only [Act.put, List.setIfInBounds_toArray, List.set_cons_succ, List.set_cons_zero]
  refine do_ rfl (.int .i64 (((writesN l m).length : Nat) : Int)) (ex_len Try.underlying75 rfl) ?_
  simp only [Act.put, List.setIfInBounds_toArray, List.set_cons_succ, List.set_cons_zero]
  by_cases hc16 : k < (writesN l m).length
  · refine do_ rfl (.bool true) (ex_lss (m := ((k : Nat) : Int)) (n := (((writesN l m).length : Nat) : Int)) (b := true) rfl rfl (decide_eq_true (by omega))) ?_
    simp only [Act.put, List.setIfInBounds_toArray, List.set_cons_succ, List.set_cons_zero]
    refine wl_nil ?_
    (try simp only [Exit.then, Exit.inBlock, ↓reduceIte, Nat.reduceEqDiff])
    refine hK26 _ _ ?_
    refine wp_cond_true rfl ?_
    refine wp_skip ?_
    (try simp only [Exit.then, Exit.inBlock, ↓reduceIte, Nat.reduceEqDiff])
    refine hK25 _ _ ?_
    refine wp_seq_k (fun K27 hK27 => ?_)
    refine wp_block ?_
    refine wp_seq_k (fun K28 hK28 => ?_)
    obtain ⟨p, hp⟩ : ∃ p, (writesN l m)[k]? = some p := ⟨(writesN l m)[k], List.getElem?_eq_getElem hc16⟩
    have hpo := hwok p (List.mem_of_getElem? hp)
    have okk := forestW_ok60 hwok (by omega) k
    cases hwf : writeF (forestW ((writesN l m).take k)) p with
    | none =>
      have hae := applyE_one (l := (forestW ((writesN l m).take k))) hpo
      rw [hwf] at hae
      refine region_wl ?_
      refine do_ rfl v (ex_move _) ?_
      simp only [Act.put, List.setIfInBounds_toArray, List.set_cons_succ, List.set_cons_zero]
      refine do_ rfl (.slice a10 (writesN l m).length c11) (ex_move _) ?_
      simp only [Act.put, List.setIfInBounds_toArray, List.set_cons_succ, List.set_cons_zero]
      refine do_ rfl (.int .i64 ((k : Nat) : Int)) (ex_move _) ?_
      simp only [Act.put, List.setIfInBounds_toArray, List.set_cons_succ, List.set_cons_zero]
      refine do_ rfl (.int .i64 ((k : Nat) : Int)) (ex_move _) ?_
      simp only [Act.put, List.setIfInBounds_toArray, List.set_cons_succ, List.set_cons_zero]
      refine do_ rfl (.int .i64 (((k + 1) : Nat) : Int)) (ex_add (m := ((k : Nat) : Int)) (n := (1 : Int)) (r := (((k + 1) : Nat) : Int)) rfl rfl (by omega) (by omega) (by omega)) ?_
      simp only [Act.put, List.setIfInBounds_toArray, List.set_cons_succ, List.set_cons_zero]
      have r29 : Wrs F16 (.slice (if c11 = k then a10 else a10.map (·.add (k * 4))) ((k + 1) - k) (c11 - k)) [p] := by have h := Sl.dropAny (m := k) (by decide) (Sl.takeN (m := (k + 1)) (R8.mono le23) (by omega)) (by omega); rwa [one_of hp] at h
      refine do_ rfl (.slice (if c11 = k then a10 else a10.map (·.add (k * 4))) ((k + 1) - k) (c11 - k)) (ex_slice (l := k) (h := (k + 1)) (sz := 4) Try.underlying75 rfl (sizeof_67 _) (.inr ⟨_, rfl, rfl⟩) (.inr ⟨_, rfl, rfl⟩) (by omega) (by omega) (rfl)) ?_
      simp only [Act.put, List.setIfInBounds_toArray, List.set_cons_succ, List.set_cons_zero]
      refine stGives S22 rfl (ex_fn (vs := #[v, (.slice (if c11 = k then a10 else a10.map (·.add (k * 4))) ((k + 1) - k) (c11 - k))]) (map2 rfl rfl) rfl (ent_59 _ _)) (apply_is (S22).sat hvF r29 okk (by simpa using hpo) hae) ?_
      intro v35 w30 F32 S31 le33 R34
      obtain ⟨_, rfl, r38⟩ := R34
      obtain ⟨a36, c37, rfl, h39, h40⟩ := Sl.shape r38
      unfold maxLen at h40
      simp only [Act.put, List.setIfInBounds_toArray, List.set_cons_succ, List.set_cons_zero]
      have S31 : St w F w30 F32 [] [] := S31
      refine do_ rfl (.tuple #[(.slice a36 ([] : Forest).length c37), (.int .i64 11)]) (ex_move _) ?_
      simp only [Act.put, List.setIfInBounds_toArray, List.set_cons_succ, List.set_cons_zero]
      refine do_ rfl (.slice a36 ([] : Forest).length c37) (ex_extract rfl rfl) ?_
      simp only [Act.put, List.setIfInBounds_toArray, List.set_cons_succ, List.set_cons_zero]
      refine do_ rfl (.int .i64 11) (ex_extract rfl rfl) ?_
      simp only [Act.put, List.setIfInBounds_toArray, List.set_cons_succ, List.set_cons_zero]
      refine do_ rfl (.slice a36 ([] : Forest).length c37) (ex_assign _) ?_
      simp only [Act.put, List.setIfInBounds_toArray, List.set_cons_succ, List.set_cons_zero]
      refine do_ rfl (.int .i64 11) (ex_assign _) ?_
      simp only [Act.put, List.setIfInBounds_toArray, List.set_cons_succ, List.set_cons_zero]
      refine wl_nil ?_
      (try simp only [Exit.then, Exit.inBlock, ↓reduceIte, Nat.reduceEqDiff])
      refine hK28 _ _ ?_
      refine wp_seq_k (fun K41 hK41 => ?_)
      refine region_wl ?_
      refine do_ rfl (.int .i64 11) (ex_move _) ?_
      simp only [Act.put, List.setIfInBounds_toArray, List.set_cons_succ, List.set_cons_zero]
      refine do_ rfl (.bool false) (ex_eql (b := false) rfl rfl (by decide)) ?_
      simp only [Act.put, List.setIfInBounds_toArray, List.set_cons_succ, List.set_cons_zero]
      refine wl_nil ?_
      (try simp only [Exit.then, Exit.inBlock, ↓reduceIte, Nat.reduceEqDiff])
      refine hK41 _ _ ?_
      refine wp_cond_false rfl ?_
      refine wp_skip ?_
      (try simp only [Exit.then, Exit.inBlock, ↓reduceIte, Nat.reduceEqDiff])
      refine hK27 _ _ ?_
      refine region_wl ?_
      refine do_ rfl (.int .i64 ((k : Nat) : Int)) (ex_move _) ?_
      simp only [Act.put, List.setIfInBounds_toArray, List.set_cons_succ, List.set_cons_zero]
      refine do_ rfl (.int .i64 (((k + 1) : Nat) : Int)) (ex_add (m := ((k : Nat) : Int)) (n := (1 : Int)) (r := (((k + 1) : Nat) : Int)) rfl rfl (by omega) (by omega) (by omega)) ?_
      simp only [Act.put, List.setIfInBounds_toArray, List.set_cons_succ, List.set_cons_zero]
      refine do_ rfl (.int .i64 (((k + 1) : Nat) : Int)) (ex_assign _) ?_
      simp only [Act.put, List.setIfInBounds_toArray, List.set_cons_succ, List.set_cons_zero]
      refine wl_nil ?_
      (try simp only [Exit.then, Exit.inBlock, ↓reduceIte, Nat.reduceEqDiff])
      exact hK24 _ _ _ (by omega) ⟨(k + 1), v, F32, (slotF [(.slice a l.length c), (.int .i64 ((m : Nat) : Int)), undef, undef, (.slice none 0 0), v, (.slice a10 (writesN l m).length c11), (.int .i64 (((k + 1) : Nat) : Int)), (.slice a36 ([] : Forest).length c37), (.int .i64 11), (.slice a l.length c), (.int .i64 ((m : Nat) : Int)), (.slice a10 (writesN l m).length c11), (.int .i64 ((k : Nat) : Int)), (.slice a10 (writesN l m).length c11), (.int .i64 (((writesN l m).length : Nat) : Int)), (.bool true), (.int .i64 ((k : Nat) : Int)), (.int .i64 (((k + 1) : Nat) : Int)), (.tuple #[(.slice a36 ([] : Forest).length c37), (.int .i64 11)]), v, (.slice a10 (writesN l m).length c11), (.int .i64 ((k : Nat) : Int)), (.int .i64 ((k : Nat) : Int)), (.int .i64 (((k + 1) : Nat) : Int)), (.slice (if c11 = k then a10 else a10.map (·.add (k * 4))) ((k + 1) - k) (c11 - k)), (.tuple #[(.slice a36 ([] : Forest).length c37), (.int .i64 11)]), (.slice a36 ([] : Forest).length c37), (.int .i64 11), (.int .i64 11), (.bool false), (u17 31), undef]), rfl, rfl, S31, (le23.trans le33), (by omega), (by rw [forestW_take hp, hwf]; exact (hvF.mono le33))⟩
    | some g =>
      have hae := applyE_one (l := (forestW ((writesN l m).take k))) hpo
      rw [hwf] at hae
      refine region_wl ?_
      refine do_ rfl v (ex_move _) ?_
      simp only [Act.put, List.setIfInBounds_toArray, List.set_cons_succ, List.set_cons_zero]
      refine do_ rfl (.slice a10 (writesN l m).length c11) (ex_move _) ?_
      simp only [Act.put, List.setIfInBounds_toArray, List.set_cons_succ, List.set_cons_zero]
      refine do_ rfl (.int .i64 ((k : Nat) : Int)) (ex_move _) ?_
      simp only [Act.put, List.setIfInBounds_toArray, List.set_cons_succ, List.set_cons_zero]
      refine do_ rfl (.int .i64 ((k : Nat) : Int)) (ex_move _) ?_
      simp only [Act.put, List.setIfInBounds_toArray, List.set_cons_succ, List.set_cons_zero]
      refine do_ rfl (.int .i64 (((k + 1) : Nat) : Int)) (ex_add (m := ((k : Nat) : Int)) (n := (1 : Int)) (r := (((k + 1) : Nat) : Int)) rfl rfl (by omega) (by omega) (by omega)) ?_
      simp only [Act.put, List.setIfInBounds_toArray, List.set_cons_succ, List.set_cons_zero]
      have r42 : Wrs F16 (.slice (if c11 = k then a10 else a10.map (·.add (k * 4))) ((k + 1) - k) (c11 - k)) [p] := by have h := Sl.dropAny (m := k) (by decide) (Sl.takeN (m := (k + 1)) (R8.mono le23) (by omega)) (by omega); rwa [one_of hp] at h
      refine do_ rfl (.slice (if c11 = k then a10 else a10.map (·.add (k * 4))) ((k + 1) - k) (c11 - k)) (ex_slice (l := k) (h := (k + 1)) (sz := 4) Try.underlying75 rfl (sizeof_67 _) (.inr ⟨_, rfl, rfl⟩) (.inr ⟨_, rfl, rfl⟩) (by omega) (by omega) (rfl)) ?_
      simp only [Act.put, List.setIfInBounds_toArray, List.set_cons_succ, List.set_cons_zero]
      refine stGives S22 rfl (ex_fn (vs := #[v, (.slice (if c11 = k then a10 else a10.map (·.add (k * 4))) ((k + 1) - k) (c11 - k))]) (map2 rfl rfl) rfl (ent_59 _ _)) (apply_is (S22).sat hvF r42 okk (by simpa using hpo) hae) ?_
      intro v48 w43 F45 S44 le46 R47
      obtain ⟨_, rfl, r51⟩ := R47
      obtain ⟨a49, c50, rfl, h52, h53⟩ := Sl.shape r51
      unfold maxLen at h53
      have h52 : g.length ≤ c50 := h52
      have r51 : Tns _ (.slice a49 g.length c50) g := r51
      simp only [Act.put, List.setIfInBounds_toArray, List.set_cons_succ, List.set_cons_zero]
      have S44 : St w F w43 F45 [] [] := S44
      refine do_ rfl (.tuple #[(.slice a49 g.length c50), (.int .i64 0)]) (ex_move _) ?_
      simp only [Act.put, List.setIfInBounds_toArray, List.set_cons_succ, List.set_cons_zero]
      refine do_ rfl (.slice a49 g.length c50) (ex_extract rfl rfl) ?_
      simp only [Act.put, List.setIfInBounds_toArray, List.set_cons_succ, List.set_cons_zero]
      refine do_ rfl (.int .i64 0) (ex_extract rfl rfl) ?_
      simp only [Act.put, List.setIfInBounds_toArray, List.set_cons_succ, List.set_cons_zero]
      refine do_ rfl (.slice a49 g.length c50) (ex_assign _) ?_
      simp only [Act.put, List.setIfInBounds_toArray, List.set_cons_succ, List.set_cons_zero]
      refine do_ rfl (.int .i64 0) (ex_assign _) ?_
      simp only [Act.put, List.setIfInBounds_toArray, List.set_cons_succ, List.set_cons_zero]
      refine wl_nil ?_
      (try simp only [Exit.then, Exit.inBlock, ↓reduceIte, Nat.reduceEqDiff])
      refine hK28 _ _ ?_
      refine wp_seq_k (fun K54 hK54 => ?_)
      refine region_wl ?_
      refine do_ rfl (.int .i64 0) (ex_move _) ?_
      simp only [Act.put, List.setIfInBounds_toArray, List.set_cons_succ, List.set_cons_zero]
      refine do_ rfl (.bool true) (ex_eql (b := true) rfl rfl (by decide)) ?_
      simp only [Act.put, List.setIfInBounds_toArray, List.set_cons_succ, List.set_cons_zero]
      refine wl_nil ?_
      (try simp only [Exit.then, Exit.inBlock, ↓reduceIte, Nat.reduceEqDiff])
      refine hK54 _ _ ?_
      refine wp_cond_true rfl ?_
      refine region_wl ?_
      refine do_ rfl (.slice a49 g.length c50) (ex_move _) ?_
      simp only [Act.put, List.setIfInBounds_toArray, List.set_cons_succ, List.set_cons_zero]
      refine do_ rfl (.slice a49 g.length c50) (ex_assign _) ?_
      simp only [Act.put, List.setIfInBounds_toArray, List.set_cons_succ, List.set_cons_zero]
      refine wl_nil ?_
      (try simp only [Exit.then, Exit.inBlock, ↓reduceIte, Nat.reduceEqDiff])
      refine hK27 _ _ ?_
      refine region_wl ?_
      refine do_ rfl (.int .i64 ((k : Nat) : Int)) (ex_move _) ?_
      simp only [Act.put, List.setIfInBounds_toArray, List.set_cons_succ, List.set_cons_zero]
      refine do_ rfl (.int .i64 (((k + 1) : Nat) : Int)) (ex_add (m := ((k : Nat) : Int)) (n := (1 : Int)) (r := (((k + 1) : Nat) : Int)) rfl rfl (by omega) (by omega) (by omega)) ?_
      simp only [Act.put, List.setIfInBounds_toArray, List.set_cons_succ, List.set_cons_zero]
      refine do_ rfl (.int .i64 (((k + 1) : Nat) : Int)) (ex_assign _) ?_
      simp only [Act.put, List.setIfInBounds_toArray, List.set_cons_succ, List.set_cons_zero]
      refine wl_nil ?_
      (try simp only [Exit.then, Exit.inBlock, ↓reduceIte, Nat.reduceEqDiff])
      exact hK24 _ _ _ (by omega) ⟨(k + 1), (.slice a49 g.length c50), F45, (slotF [(.slice a l.length c), (.int .i64 ((m : Nat) : Int)), undef, undef, (.slice none 0 0), (.slice a49 g.length c50), (.slice a10 (writesN l m).length c11), (.int .i64 (((k + 1) : Nat) : Int)), (.slice a49 g.length c50), (.int .i64 0), (.slice a l.length c), (.int .i64 ((m : Nat) : Int)), (.slice a10 (writesN l m).length c11), (.int .i64 ((k : Nat) : Int)), (.slice a10 (writesN l m).length c11), (.int .i64 (((writesN l m).length : Nat) : Int)), (.bool true), (.int .i64 ((k : Nat) : Int)), (.int .i64 (((k + 1) : Nat) : Int)), (.tuple #[(.slice a49 g.length c50), (.int .i64 0)]), v, (.slice a10 (writesN l m).length c11), (.int .i64 ((k : Nat) : Int)), (.int .i64 ((k : Nat) : Int)), (.int .i64 (((k + 1) : Nat) : Int)), (.slice (if c11 = k then a10 else a10.map (·.add (k * 4))) ((k + 1) - k) (c11 - k)), (.tuple #[(.slice a49 g.length c50), (.int .i64 0)]), (.slice a49 g.length c50), (.int .i64 0), (.int .i64 0), (.bool true), (.slice a49 g.length c50), undef]), rfl, rfl, S44, (le23.trans le46), (by omega), (by rw [forestW_take hp, hwf]; exact r51)⟩
  · refine do_ rfl (.bool false) (ex_lss (m := ((k : Nat) : Int)) (n := (((writesN l m).length : Nat) : Int)) (b := false) rfl rfl (decide_eq_false (by omega))) ?_
    simp only [Act.put, List.setIfInBounds_toArray, List.set_cons_succ, List.set_cons_zero]
    refine wl_nil ?_
    (try simp only [Exit.then, Exit.inBlock, ↓reduceIte, Nat.reduceEqDiff])
    refine hK26 _ _ ?_
    refine wp_cond_false rfl ?_
    refine wp_exit ?_
    (try simp only [Exit.then, Exit.inBlock, ↓reduceIte, Nat.reduceEqDiff])
    refine hK14 _ _ ?_
    refine wp_seq_k (fun K55 hK55 => ?_)
    refine region_wl ?_
    refine do_ rfl v (ex_move _) ?_
    simp only [Act.put, List.setIfInBounds_toArray, List.set_cons_succ, List.set_cons_zero]
    refine do_ rfl v (ex_assign _) ?_
    simp only [Act.put, List.setIfInBounds_toArray, List.set_cons_succ, List.set_cons_zero]
    refine wl_nil ?_
    (try simp only [Exit.then, Exit.inBlock, ↓reduceIte, Nat.reduceEqDiff])
    refine hK55 _ _ ?_
    refine wp_ret ?_
    (try simp only [Exit.then, Exit.inBlock, ↓reduceIte, Nat.reduceEqDiff])
    refine bodyPost_ret (v := v) ?_ rfl ?_
    · exact res_t rfl rfl
    · have hend : (writesN l m).take k = (writesN l m) := List.take_of_length_le (by omega)
      exact ⟨_, _, rfl, S22.gr, by rw [← hend]; exact hvF⟩
set_option maxHeartbeats 8000000 in
theorem sameForest_spec (F : Fz) (w : World) (v u : Value) (l m : Forest) (hs : Sat w F) (hv : Tns F v l) (hu : Tns F u m) (hl : l.length ≤ 1000000) (hL : ∀ t ∈ l, t.2.length ≤ 1000000) :
    Calls Try.prog 60 #[v, u] w (Tells w (.bool (decide (l = m)))) := by
  obtain ⟨a, c, rfl, hc1, hc2⟩ := Sl.shape hv
  obtain ⟨a2, c2, rfl, hc3, hc4⟩ := Sl.shape hu
  unfold maxLen at hc2 hc4
  have S := St.start hs
  go_enter Try.func60, Try.ntmps60
  refine wp_seq_k (fun K1 hK1 => ?_)
  refine region_wl ?_
  refine do_ rfl (.bool false) (ex_assign _) ?_
  simp only [Act.put, List.setIfInBounds_toArray, List.set_cons_succ, List.set_cons_zero]
  refine wl_nil ?_
  (try simp only [Exit.then, Exit.inBlock, ↓reduceIte, Nat.reduceEqDiff])
  refine hK1 _ _ ?_
  refine wp_seq_k (fun K2 hK2 => ?_)
  refine wp_seq_k (fun K3 hK3 => ?_)
  refine region_wl ?_
  refine do_ rfl (.slice a l.length c) (ex_move _) ?_
  simp only [Act.put, List.setIfInBounds_toArray, List.set_cons_succ, List.set_cons_zero]
  refine do_ rfl (.int .i64 ((l.length : Nat) : Int)) (ex_len Try.underlying73 rfl) ?_
  simp only [Act.put, List.setIfInBounds_toArray, List.set_cons_succ, List.set_cons_zero]
  refine do_ rfl (.slice a2 m.length c2) (ex_move _) ?_
  simp only [Act.put, List.setIfInBounds_toArray, List.set_cons_succ, List.set_cons_zero]
  refine do_ rfl (.int .i64 ((m.length : Nat) : Int)) (ex_len Try.underlying73 rfl) ?_
  simp only [Act.put, List.setIfInBounds_toArray, List.set_cons_succ, List.set_cons_zero]
  by_cases hc10 : l.length = m.length
  · refine do_ rfl (.bool false) (ex_neq (m := ((l.length : Nat) : Int)) (n := ((m.length : Nat) : Int)) (b := false) rfl rfl (bne_eq_false_iff_eq.2 (by omega))) ?_
    simp only [Act.put, List.setIfInBounds_toArray, List.set_cons_succ, List.set_cons_zero]
    refine wl_nil ?_
    (try simp only [Exit.then, Exit.inBlock, ↓reduceIte, Nat.reduceEqDiff])
    refine hK3 _ _ ?_
    refine wp_cond_false rfl ?_
    refine wp_skip ?_
    (try simp only [Exit.then, Exit.inBlock, ↓reduceIte, Nat.reduceEqDiff])
    refine hK2 _ _ ?_
    refine wp_seq_k (fun K4 hK4 => ?_)
    refine wp_seq_k (fun K5 hK5 => ?_)
    refine region_wl ?_
    refine do_ rfl (.int .i64 0) (ex_assign _) ?_
    simp only [Act.put, List.setIfInBounds_toArray, List.set_cons_succ, List.set_cons_zero]
    refine wl_nil ?_
    (try simp only [Exit.then, Exit.inBlock, ↓reduceIte, Nat.reduceEqDiff])
    refine hK5 _ _ ?_
    refine wp_block ?_
    refine wp_loop_g (fun mm aa w7 => ∃ (k : Nat) (u6 : Nat → Value), mm = l.length - k ∧ aa = ⟨#[(.slice a l.length c), (.slice a2 m.length c2), undef, undef, (u6 4), (.int .i64 ((k : Nat) : Int)), (.slice a l.length c), (.int .i64 ((l.length : Nat) : Int)), (.slice a2 m.length c2), (.int .i64 ((m.length : Nat) : Int)), (.bool false), (u6 11), (u6 12), (u6 13), (u6 14), (u6 15), (u6 16), (u6 17), (u6 18), (u6 19), (u6 20), (u6 21), (u6 22), (u6 23), (u6 24), (u6 25), (u6 26), (u6 27), (u6 28), (u6 29), (u6 30), (u6 31), (u6 32), (u6 33), (u6 34), (u6 35), (u6 36), (u6 37), (u6 38), (u6 39), (u6 40), (u6 41), (u6 42)], []⟩ ∧ St w F w7 F [] [] ∧ (k ≤ l.length) ∧ (∀ i, i < k → l[i]? = m[i]?)) _ ⟨0, (slotF [(.slice a l.length c), (.slice a2 m.length c2), undef, undef, (.bool false), (.int .i64 0), (.slice a l.length c), (.int .i64 ((l.length : Nat) : Int)), (.slice a2 m.length c2), (.int .i64 ((m.length : Nat) : Int)), (.bool false), undef, undef, undef, undef, undef, undef, undef, undef, undef, undef, undef, undef, undef, undef, undef, undef, undef, undef, undef, undef, undef, undef, undef, undef, undef, undef, undef, undef, undef, undef, undef, undef]), rfl, rfl, S, (by omega), (fun i hi => absurd hi (by omega))⟩ ?_
    rintro m8 a9 w10 ⟨k, u6, rfl, rfl, S11, hk, hsm⟩ K13 hK13
    refine wp_seq_k (fun K14 hK14 => ?_)
    refine wp_seq_k (fun K15 hK15 => ?_)
    refine region_wl ?_
    refine do_ rfl (.int .i64 ((k : Nat) : Int)) (ex_move _) ?_
    simp only [Act.put, List.setIfInBounds_toArray, List.set_cons_succ, List.set_cons_zero]
    refine do_ rfl (.slice a l.length c) (ex_move _) ?_
    simp only [Act.put, List.setIfInBounds_toArray, List.set_cons_succ, List.set_cons_zero]
    refine do_ rfl (.int .i64 ((l.length : Nat) : Int)) (ex_len Try.underlying73 rfl) ?_
    simp only [Act.put, List.setIfInBounds_toArray, List.set_cons_succ, List.set_cons_zero]
    by_cases hc14 : k < l.length
    · refine do_ rfl (.bool true) (ex_lss (m := ((k : Nat) : Int)) (n := ((l.length : Nat) : Int)) (b := true) rfl rfl (decide_eq_true (by omega))) ?_
      simp only [Act.put, List.setIfInBounds_toArray, List.set_cons_succ, List.set_cons_zero]
      refine wl_nil ?_
      (try simp only [Exit.then, Exit.inBlock, ↓reduceIte, Nat.reduceEqDiff])
      refine hK15 _ _ ?_
      refine wp_cond_true rfl ?_
      refine wp_skip ?_
      (try simp only [Exit.then, Exit.inBlock, ↓reduceIte, Nat.reduceEqDiff])
      refine hK14 _ _ ?_
      refine wp_seq_k (fun K16 hK16 => ?_)
      refine wp_block ?_
      refine wp_seq_k (fun K17 hK17 => ?_)
      obtain ⟨t, hp⟩ : ∃ t, l[k]? = some t := ⟨l[k], List.getElem?_eq_getElem hc14⟩
      obtain ⟨q, hq⟩ : ∃ q, m[k]? = some q := ⟨m[k]'(by omega), List.getElem?_eq_getElem (by omega)⟩
      have htl := hL t (List.mem_of_getElem? hp)
      obtain ⟨b18, o19, ha20, xa22, xc23, xa26, xc27, c21, c25, r24, r28⟩ := Tns.get hv hp
      obtain ⟨b29, o30, ha31, xa33, xc34, xa37, xc38, c32, c36, r35, r39⟩ := Tns.get hu hq
      by_cases e1 : t.1 = q.1
      · refine region_gw F 23 [(10, .is (.bool true))] (by kernel_rfl) (by kernel_rfl) ?_
        simp only [List.take_succ_cons, List.take_zero]
        refine gw_pure rfl rfl (.slice a l.length c) (fun w40 hCw40 => pureAt_of (ex_move _)) ?_
        simp only [Act.put, List.setIfInBounds_toArray, List.set_cons_succ, List.set_cons_zero]
        refine gw_pure rfl rfl (.int .i64 ((k : Nat) : Int)) (fun w40 hCw40 => pureAt_of (ex_move _)) ?_
        simp only [Act.put, List.setIfInBounds_toArray, List.set_cons_succ, List.set_cons_zero]
        refine gw_pure rfl rfl (.pointer (some ⟨b18, o19 + k * 2, none⟩)) (fun w40 hCw40 => pureAt_of (ex_at (i := k) (sz := 2) Try.underlying73 (sizeof_83 _) rfl ha20 rfl (by omega) rfl)) ?_
        simp only [Act.put, List.setIfInBounds_toArray, List.set_cons_succ, List.set_cons_zero]
        refine gw_pure rfl rfl (.pointer (some ⟨b18, o19 + k * 2, none⟩)) (fun w40 hCw40 => pureAt_of (ex_field (q := ⟨b18, o19 + k * 2, none⟩) rfl (fa_83_0 _ _))) ?_
        simp only [Act.put, List.setIfInBounds_toArray, List.set_cons_succ, List.set_cons_zero]
        refine gw_pure rfl rfl (.slice xa22 t.1.length xc23) (fun w40 hCw40 => pureAt_of (ex_load rfl (load1 (nagg_27 _) (St.fz (St.tells S11 hCw40) c21)))) ?_
        simp only [Act.put, List.setIfInBounds_toArray, List.set_cons_succ, List.set_cons_zero]
        refine gw_pure rfl rfl (.slice a2 m.length c2) (fun w40 hCw40 => pureAt_of (ex_move _)) ?_
        simp only [Act.put, List.setIfInBounds_toArray, List.set_cons_succ, List.set_cons_zero]
        refine gw_pure rfl rfl (.int .i64 ((k : Nat) : Int)) (fun w40 hCw40 => pureAt_of (ex_move _)) ?_
        simp only [Act.put, List.setIfInBounds_toArray, List.set_cons_succ, List.set_cons_zero]
        refine gw_pure rfl rfl (.pointer (some ⟨b29, o30 + k * 2, none⟩)) (fun w40 hCw40 => pureAt_of (ex_at (i := k) (sz := 2) Try.underlying73 (sizeof_83 _) rfl ha31 rfl (by omega) rfl)) ?_
        simp only [Act.put, List.setIfInBounds_toArray, List.set_cons_succ, List.set_cons_zero]
        refine gw_pure rfl rfl (.pointer (some ⟨b29, o30 + k * 2, none⟩)) (fun w40 hCw40 => pureAt_of (ex_field (q := ⟨b29, o30 + k * 2, none⟩) rfl (fa_83_0 _ _))) ?_
        simp only [Act.put, List.setIfInBounds_toArray, List.set_cons_succ, List.set_cons_zero]
        refine gw_pure rfl rfl (.slice xa33 q.1.length xc34) (fun w40 hCw40 => pureAt_of (ex_load rfl (load1 (nagg_27 _) (St.fz (St.tells S11 hCw40) c32)))) ?_
        simp only [Act.put, List.setIfInBounds_toArray, List.set_cons_succ, List.set_cons_zero]
        refine gw_const rfl rfl (v := (.bool true)) (fun w40 hCw40 _ => does_call (ex_fn (vs := #[(.slice xa22 t.1.length xc23), (.slice xa33 q.1.length xc34)]) (map2 rfl rfl) rfl (ent_46 _ _)) (call_tells (tells_bool (tells_same (same_spec _ _ _ _ t.1 q.1 ((St.tells S11 hCw40)).sat r24 r35)) (beq_iff_eq.2 (e1))))) ?_
        simp only [Act.put, List.setIfInBounds_toArray, List.set_cons_succ, List.set_cons_zero]
        refine gw_pure rfl rfl (.bool false) (fun w40 hCw40 => pureAt_of (ex_not (b := true) rfl rfl)) ?_
        simp only [Act.put, List.setIfInBounds_toArray, List.set_cons_succ, List.set_cons_zero]
        refine gw_pure rfl rfl (.bool false) (fun w40 hCw40 => pureAt_of (ex_move _)) ?_
        simp only [Act.put, List.setIfInBounds_toArray, List.set_cons_succ, List.set_cons_zero]
        refine gw_pure rfl rfl (.slice a l.length c) (fun w40 hCw40 => pureAt_of (ex_move _)) ?_
        simp only [Act.put, List.setIfInBounds_toArray, List.set_cons_succ, List.set_cons_zero]
        refine gw_pure rfl rfl (.int .i64 ((k : Nat) : Int)) (fun w40 hCw40 => pureAt_of (ex_move _)) ?_
        simp only [Act.put, List.setIfInBounds_toArray, List.set_cons_succ, List.set_cons_zero]
        refine gw_pure rfl rfl (.pointer (some ⟨b18, o19 + k * 2, none⟩)) (fun w40 hCw40 => pureAt_of (ex_at (i := k) (sz := 2) Try.underlying73 (sizeof_83 _) rfl ha20 rfl (by omega) rfl)) ?_
        simp only [Act.put, List.setIfInBounds_toArray, List.set_cons_succ, List.set_cons_zero]
        refine gw_pure rfl rfl (.pointer (some ⟨b18, o19 + k * 2 + 1, none⟩)) (fun w40 hCw40 => pureAt_of (ex_field (q := ⟨b18, o19 + k * 2 + 1, none⟩) rfl (fa_83_1 _ _))) ?_
        simp only [Act.put, List.setIfInBounds_toArray, List.set_cons_succ, List.set_cons_zero]
        refine gw_pure rfl rfl (.slice xa26 t.2.length xc27) (fun w40 hCw40 => pureAt_of (ex_load rfl (load1 (nagg_44 _) (St.fz (St.tells S11 hCw40) c25)))) ?_
        simp only [Act.put, List.setIfInBounds_toArray, List.set_cons_succ, List.set_cons_zero]
        refine gw_pure rfl rfl (.slice a2 m.length c2) (fun w40 hCw40 => pureAt_of (ex_move _)) ?_
        simp only [Act.put, List.setIfInBounds_toArray, List.set_cons_succ, List.set_cons_zero]
        refine gw_pure rfl rfl (.int .i64 ((k : Nat) : Int)) (fun w40 hCw40 => pureAt_of (ex_move _)) ?_
        simp only [Act.put, List.setIfInBounds_toArray, List.set_cons_succ, List.set_cons_zero]
        refine gw_pure rfl rfl (.pointer (some ⟨b29, o30 + k * 2, none⟩)) (fun w40 hCw40 => pureAt_of (ex_at (i := k) (sz := 2) Try.underlying73 (sizeof_83 _) rfl ha31 rfl (by omega) rfl)) ?_
        simp only [Act.put, List.setIfInBounds_toArray, List.set_cons_succ, List.set_cons_zero]
        refine gw_pure rfl rfl (.pointer (some ⟨b29, o30 + k * 2 + 1, none⟩)) (fun w40 hCw40 => pureAt_of (ex_field (q := ⟨b29, o30 + k * 2 + 1, none⟩) rfl (fa_83_1 _ _))) ?_
        simp only [Act.put, List.setIfInBounds_toArray, List.set_cons_succ, List.set_cons_zero]
        refine gw_pure rfl rfl (.slice xa37 q.2.length xc38) (fun w40 hCw40 => pureAt_of (ex_load rfl (load1 (nagg_44 _) (St.fz (St.tells S11 hCw40) c36)))) ?_
        simp only [Act.put, List.setIfInBounds_toArray, List.set_cons_succ, List.set_cons_zero]
        refine gw_nil ?_
        intro w41 hC43 hF44
        clear hF44
        have S42 := St.tells S11 hC43
        simp only [List.drop_succ_cons, List.drop_zero]
        have S42 : St w F w41 F [] [] := S42
        refine stTells (v := (.bool (decide (t.2 = q.2)))) S42 rfl (ex_fn (vs := #[(.slice xa26 t.2.length xc27), (.slice xa37 q.2.length xc38)]) (map2 rfl rfl) rfl (ent_50 _ _)) (samePairs_spec _ _ _ _ t.2 q.2 (S42).sat r28 r39 (by omega)) (fun w45 S46 => ?_)
        simp only [Act.put, List.setIfInBounds_toArray, List.set_cons_succ, List.set_cons_zero]
        have S46 : St w F w45 F [] [] := S46
        refine do_ rfl (.bool (!(decide (t.2 = q.2)))) (ex_not rfl rfl) ?_
        simp only [Act.put, List.setIfInBounds_toArray, List.set_cons_succ, List.set_cons_zero]
        refine do_ rfl (.bool (!(decide (t.2 = q.2)))) (ex_pick (b := false) rfl) ?_
        simp only [Act.put, List.setIfInBounds_toArray, List.set_cons_succ, List.set_cons_zero]
        refine wl_nil ?_
        (try simp only [Exit.then, Exit.inBlock, ↓reduceIte, Nat.reduceEqDiff])
        refine hK17 _ _ ?_
        refine wp_cond_split rfl (fun hc47 => ?_) (fun hc47 => ?_)
        · refine wp_seq_k (fun K48 hK48 => ?_)
          refine region_wl ?_
          refine do_ rfl (.bool false) (ex_assign _) ?_
          simp only [Act.put, List.setIfInBounds_toArray, List.set_cons_succ, List.set_cons_zero]
          refine wl_nil ?_
          (try simp only [Exit.then, Exit.inBlock, ↓reduceIte, Nat.reduceEqDiff])
          refine hK48 _ _ ?_
          refine wp_ret ?_
          (try simp only [Exit.then, Exit.inBlock, ↓reduceIte, Nat.reduceEqDiff])
          refine bodyPost_ret (v := (.bool false)) ?_ rfl ?_
          · exact res_t rfl rfl
          · exact ⟨by rw [decide_eq_false (fun e => by rw [e] at hp; rw [hp] at hq; cases hq; first | exact e1 rfl | simp at hc47)], S46.gr.below⟩
        · refine wp_skip ?_
          (try simp only [Exit.then, Exit.inBlock, ↓reduceIte, Nat.reduceEqDiff])
          refine hK16 _ _ ?_
          refine region_wl ?_
          refine do_ rfl (.int .i64 ((k : Nat) : Int)) (ex_move _) ?_
          simp only [Act.put, List.setIfInBounds_toArray, List.set_cons_succ, List.set_cons_zero]
          refine do_ rfl (.int .i64 (((k + 1) : Nat) : Int)) (ex_add (m := ((k : Nat) : Int)) (n := (1 : Int)) (r := (((k + 1) : Nat) : Int)) rfl rfl (by omega) (by omega) (by omega)) ?_
          simp only [Act.put, List.setIfInBounds_toArray, List.set_cons_succ, List.set_cons_zero]
          refine do_ rfl (.int .i64 (((k + 1) : Nat) : Int)) (ex_assign _) ?_
          simp only [Act.put, List.setIfInBounds_toArray, List.set_cons_succ, List.set_cons_zero]
          refine wl_nil ?_
          (try simp only [Exit.then, Exit.inBlock, ↓reduceIte, Nat.reduceEqDiff])
          exact hK13 _ _ _ (by omega) ⟨(k + 1), (slotF [(.slice a l.length c), (.slice a2 m.length c2), undef, undef, (u6 4), (.int .i64 (((k + 1) : Nat) : Int)), (.slice a l.length c), (.int .i64 ((l.length : Nat) : Int)), (.slice a2 m.length c2), (.int .i64 ((m.length : Nat) : Int)), (.bool false), (.int .i64 ((k : Nat) : Int)), (.slice a l.length c), (.int .i64 ((l.length : Nat) : Int)), (.bool true), (.int .i64 ((k : Nat) : Int)), (.int .i64 (((k + 1) : Nat) : Int)), (.slice a l.length c), (.int .i64 ((k : Nat) : Int)), (.pointer (some ⟨b18, o19 + k * 2, none⟩)), (.pointer (some ⟨b18, o19 + k * 2, none⟩)), (.slice xa22 t.1.length xc23), (.slice a2 m.length c2), (.int .i64 ((k : Nat) : Int)), (.pointer (some ⟨b29, o30 + k * 2, none⟩)), (.pointer (some ⟨b29, o30 + k * 2, none⟩)), (.slice xa33 q.1.length xc34), (.bool true), (.bool false), (.bool false), (.slice a l.length c), (.int .i64 ((k : Nat) : Int)), (.pointer (some ⟨b18, o19 + k * 2, none⟩)), (.pointer (some ⟨b18, o19 + k * 2 + 1, none⟩)), (.slice xa26 t.2.length xc27), (.slice a2 m.length c2), (.int .i64 ((k : Nat) : Int)), (.pointer (some ⟨b29, o30 + k * 2, none⟩)), (.pointer (some ⟨b29, o30 + k * 2 + 1, none⟩)), (.slice xa37 q.2.length xc38), (.bool (decide (t.2 = q.2))), (.bool (!(decide (t.2 = q.2)))), (.bool (!(decide (t.2 = q.2))))]), rfl, rfl, S46, (by omega), (fun i hi => by rcases Nat.lt_succ_iff_lt_or_eq.1 hi with h | rfl; exact hsm i h; rw [hp, hq, show t = q from Prod.ext e1 (by simpa using hc47)])⟩
      · refine region_gw F 23 [(10, .is (.bool false))] (by kernel_rfl) (by kernel_rfl) ?_
        simp only [List.take_succ_cons, List.take_zero]
        refine gw_pure rfl rfl (.slice a l.length c) (fun w49 hCw49 => pureAt_of (ex_move _)) ?_
        simp only [Act.put, List.setIfInBounds_toArray, List.set_cons_succ, List.set_cons_zero]
        refine gw_pure rfl rfl (.int .i64 ((k : Nat) : Int)) (fun w49 hCw49 => pureAt_of (ex_move _)) ?_
        simp only [Act.put, List.setIfInBounds_toArray, List.set_cons_succ, List.set_cons_zero]
        refine gw_pure rfl rfl (.pointer (some ⟨b18, o19 + k * 2, none⟩)) (fun w49 hCw49 => pureAt_of (ex_at (i := k) (sz := 2) Try.underlying73 (sizeof_83 _) rfl ha20 rfl (by omega) rfl)) ?_
        simp only [Act.put, List.setIfInBounds_toArray, List.set_cons_succ, List.set_cons_zero]
        refine gw_pure rfl rfl (.pointer (some ⟨b18, o19 + k * 2, none⟩)) (fun w49 hCw49 => pureAt_of (ex_field (q := ⟨b18, o19 + k * 2, none⟩) rfl (fa_83_0 _ _))) ?_
        simp only [Act.put, List.setIfInBounds_toArray, List.set_cons_succ, List.set_cons_zero]
        refine gw_pure rfl rfl (.slice xa22 t.1.length xc23) (fun w49 hCw49 => pureAt_of (ex_load rfl (load1 (nagg_27 _) (St.fz (St.tells S11 hCw49) c21)))) ?_
        simp only [Act.put, List.setIfInBounds_toArray, List.set_cons_succ, List.set_cons_zero]
        refine gw_pure rfl rfl (.slice a2 m.length c2) (fun w49 hCw49 => pureAt_of (ex_move _)) ?_
        simp only [Act.put, List.setIfInBounds_toArray, List.set_cons_succ, List.set_cons_zero]
        refine gw_pure rfl rfl (.int .i64 ((k : Nat) : Int)) (fun w49 hCw49 => pureAt_of (ex_move _)) ?_
        simp only [Act.put, List.setIfInBounds_toArray, List.set_cons_succ, List.set_cons_zero]
        refine gw_pure rfl rfl (.pointer (some ⟨b29, o30 + k * 2, none⟩)) (fun w49 hCw49 => pureAt_of (ex_at (i := k) (sz := 2) Try.underlying73 (sizeof_83 _) rfl ha31 rfl (by omega) rfl)) ?_
        simp only [Act.put, List.setIfInBounds_toArray, List.set_cons_succ, List.set_cons_zero]
        refine gw_pure rfl rfl (.pointer (some ⟨b29, o30 + k * 2, none⟩)) (fun w49 hCw49 => pureAt_of (ex_field (q := ⟨b29, o30 + k * 2, none⟩) rfl (fa_83_0 _ _))) ?_
        simp only [Act.put, List.setIfInBounds_toArray, List.set_cons_succ, List.set_cons_zero]
        refine gw_pure rfl rfl (.slice xa33 q.1.length xc34) (fun w49 hCw49 => pureAt_of (ex_load rfl (load1 (nagg_27 _) (St.fz (St.tells S11 hCw49) c32)))) ?_
        simp only [Act.put, List.setIfInBounds_toArray, List.set_cons_succ, List.set_cons_zero]
        refine gw_const rfl rfl (v := (.bool false)) (fun w49 hCw49 _ => does_call (ex_fn (vs := #[(.slice xa22 t.1.length xc23), (.slice xa33 q.1.length xc34)]) (map2 rfl rfl) rfl (ent_46 _ _)) (call_tells (tells_bool (tells_same (same_spec _ _ _ _ t.1 q.1 ((St.tells S11 hCw49)).sat r24 r35)) (beq_eq_false_iff_ne.2 (e1))))) ?_
        simp only [Act.put, List.setIfInBounds_toArray, List.set_cons_succ, List.set_cons_zero]
        refine gw_pure rfl rfl (.bool true) (fun w49 hCw49 => pureAt_of (ex_not (b := false) rfl rfl)) ?_
        simp only [Act.put, List.setIfInBounds_toArray, List.set_cons_succ, List.set_cons_zero]
        refine gw_pure rfl rfl (.bool true) (fun w49 hCw49 => pureAt_of (ex_move _)) ?_
        simp only [Act.put, List.setIfInBounds_toArray, List.set_cons_succ, List.set_cons_zero]
        refine gw_skip (wanted_no rfl rfl rfl (c := true) rfl (by decide)) ?_
        simp only [Act.put, List.setIfInBounds_toArray, List.set_cons_succ, List.set_cons_zero]
        refine gw_skip (wanted_no rfl rfl rfl (c := true) rfl (by decide)) ?_
        simp only [Act.put, List.setIfInBounds_toArray, List.set_cons_succ, List.set_cons_zero]
        refine gw_skip (wanted_no rfl rfl rfl (c := true) rfl (by decide)) ?_
        simp only [Act.put, List.setIfInBounds_toArray, List.set_cons_succ, List.set_cons_zero]
        refine gw_skip (wanted_no rfl rfl rfl (c := true) rfl (by decide)) ?_
        simp only [Act.put, List.setIfInBounds_toArray, List.set_cons_succ, List.set_cons_zero]
        refine gw_skip (wanted_no rfl rfl rfl (c := true) rfl (by decide)) ?_
        simp only [Act.put, List.setIfInBounds_toArray, List.set_cons_succ, List.set_cons_zero]
        refine gw_skip (wanted_no rfl rfl rfl (c := true) rfl (by decide)) ?_
        simp only [Act.put, List.setIfInBounds_toArray, List.set_cons_succ, List.set_cons_zero]
        refine gw_skip (wanted_no rfl rfl rfl (c := true) rfl (by decide)) ?_
        simp only [Act.put, List.setIfInBounds_toArray, List.set_cons_succ, List.set_cons_zero]
        refine gw_skip (wanted_no rfl rfl rfl (c := true) rfl (by decide)) ?_
        simp only [Act.put, List.setIfInBounds_toArray, List.set_cons_succ, List.set_cons_zero]
        refine gw_skip (wanted_no rfl rfl rfl (c := true) rfl (by decide)) ?_
        simp only [Act.put, List.setIfInBounds_toArray, List.set_cons_succ, List.set_cons_zero]
        refine gw_skip (wanted_no rfl rfl rfl (c := true) rfl (by decide)) ?_
        simp only [Act.put, List.setIfInBounds_toArray, List.set_cons_succ, List.set_cons_zero]
        refine gw_nil ?_
        intro w50 hC52 hF53
        clear hF53
        have S51 := St.tells S11 hC52
        simp only [List.drop_succ_cons, List.drop_zero]
        have S51 : St w F w50 F [] [] := S51
        refine doN (wanted_no rfl rfl rfl (c := true) rfl (by decide)) ?_
        simp only [Act.put, List.setIfInBounds_toArray, List.set_cons_succ, List.set_cons_zero]
        refine doN (wanted_no rfl rfl rfl (c := true) rfl (by decide)) ?_
        simp only [Act.put, List.setIfInBounds_toArray, List.set_cons_succ, List.set_cons_zero]
        refine do_ rfl (.bool true) (ex_pick (b := true) rfl) ?_
        simp only [Act.put, List.setIfInBounds_toArray, List.set_cons_succ, List.set_cons_zero]
        refine wl_nil ?_
        (try simp only [Exit.then, Exit.inBlock, ↓reduceIte, Nat.reduceEqDiff])
        refine hK17 _ _ ?_
        refine wp_cond_true rfl ?_
        refine wp_seq_k (fun K54 hK54 => ?_)
        refine region_wl ?_
        refine do_ rfl (.bool false) (ex_assign _) ?_
        simp only [Act.put, List.setIfInBounds_toArray, List.set_cons_succ, List.set_cons_zero]
        refine wl_nil ?_
        (try simp only [Exit.then, Exit.inBlock, ↓reduceIte, Nat.reduceEqDiff])
        refine hK54 _ _ ?_
        refine wp_ret ?_
        (try simp only [Exit.then, Exit.inBlock, ↓reduceIte, Nat.reduceEqDiff])
        refine bodyPost_ret (v := (.bool false)) ?_ rfl ?_
        · exact res_t rfl rfl
        · exact ⟨by rw [decide_eq_false (fun e => by rw [e] at hp; rw [hp] at hq; cases hq; first | exact e1 rfl | simp at hc47)], S51.gr.below⟩
    · refine do_ rfl (.bool false) (ex_lss (m := ((k : Nat) : Int)) (n := ((l.length : Nat) : Int)) (b := false) rfl rfl (decide_eq_false (by omega))) ?_
      simp only [Act.put, List.setIfInBounds_toArray, List.set_cons_succ, List.set_cons_zero]
      refine wl_nil ?_
      (try simp only [Exit.then, Exit.inBlock, ↓reduceIte, Nat.reduceEqDiff])
      refine hK15 _ _ ?_
      refine wp_cond_false rfl ?_
      refine wp_exit ?_
      (try simp only [Exit.then, Exit.inBlock, ↓reduceIte, Nat.reduceEqDiff])
      refine hK4 _ _ ?_
      refine wp_seq_k (fun K55 hK55 => ?_)
      refine region_wl ?_
      refine do_ rfl (.bool true) (ex_assign _) ?_
      simp only [Act.put, List.setIfInBounds_toArray, List.set_cons_succ, List.set_cons_zero]
      refine wl_nil ?_
      (try simp only [Exit.then, Exit.inBlock, ↓reduceIte, Nat.reduceEqDiff])
      refine hK55 _ _ ?_
      refine wp_ret ?_
      (try simp only [Exit.then, Exit.inBlock, ↓reduceIte, Nat.reduceEqDiff])
      refine bodyPost_ret (v := (.bool true)) ?_ rfl ?_
      · exact res_t rfl rfl
      · exact ⟨by rw [decide_eq_true (List.ext_getElem? fun i => by rcases Nat.lt_or_ge i k with h | h; exact hsm i h; rw [List.getElem?_eq_none (by omega), List.getElem?_eq_none (by omega)])], S11.gr.below⟩
  · refine do_ rfl (.bool true) (ex_neq (m := ((l.length : Nat) : Int)) (n := ((m.length : Nat) : Int)) (b := true) rfl rfl (bne_iff_ne.2 (by omega))) ?_
    simp only [Act.put, List.setIfInBounds_toArray, List.set_cons_succ, List.set_cons_zero]
    refine wl_nil ?_
    (try simp only [Exit.then, Exit.inBlock, ↓reduceIte, Nat.reduceEqDiff])
    refine hK3 _ _ ?_
    refine wp_cond_true rfl ?_
    refine wp_seq_k (fun K56 hK56 => ?_)
    refine region_wl ?_
    refine do_ rfl (.bool false) (ex_assign _) ?_
    simp only [Act.put, List.setIfInBounds_toArray, List.set_cons_succ, List.set_cons_zero]
    refine wl_nil ?_
    (try simp only [Exit.then, Exit.inBlock, ↓reduceIte, Nat.reduceEqDiff])
    refine hK56 _ _ ?_
    refine wp_ret ?_
    (try simp only [Exit.then, Exit.inBlock, ↓reduceIte, Nat.reduceEqDiff])
    refine bodyPost_ret (v := (.bool false)) ?_ rfl ?_
    · exact res_t rfl rfl
    · exact ⟨by rw [decide_eq_false (fun e => hc10 (by rw [e]))], S.gr.below⟩
end Go.Proofs.Yteefnnnbbmbmcaa
